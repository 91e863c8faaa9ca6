/- The types that a step leads to are small. -/
import Derived.Test.YteanleefnjknoaaGreatDoorKind6
import Derived.Test.YteanleefnjknoaaGreatDoorChk3
open Go.Proofs.Tryz
set_option linter.defProp false
set_option maxHeartbeats 0
set_option linter.unusedVariables false
set_option linter.unusedSimpArgs false
namespace Go.cK
def Sm(r:CR):Prop:=∀t∈r.1.1,bw t<=2000
def HH(s:L Ty):Prop:=∀t∈s,bw t<=2000
def gP{s:L Ty}(h:HH s):Sm (eT s):=h
def b9(e:Int):Sm (aR e):=λt I=>by simp[aR]at I
def bG{p:Prop}[Decidable p]{a b:CR}(h1:Sm a)(h2:Sm b):Sm (if p then a else b):=by grind
def ee{t:Ty}{s:L Ty}(h1:bw t<=2000)(h2:HH s):HH (t::s):=λx O=>by
 rcases List.mem_cons.1 O with rfl|O
 ·exact h1
 ·exact h2 x O
def sI{s:L Ty}(h:rJ s):HH s:=λt I=>by have:=(h t I).2;omega
def Bx{a b:L Ty}(h1:HH a)(h2:HH b):HH (a++b):=λx O=>by
 rcases List.mem_append.1 O with O|O
 ·exact h1 x O
 ·exact h2 x O
def vY{a b:CR}(ha:Sm a)(Q:Sm b):Sm (di a b):=by
 unfold di;refine bG (b9 _) (bG (b9 _) (bG Q (bG ha (b9 _))))
def kC(a:Ty)(i:Nat):bw (aE a i)<=bw a:=by
 obtain⟨T,l⟩:=a;show bw (l.getD i kX)<=_;rw[afa];cases h:l[i]? with
 |none=>simp only[Option.getD_none,kX,bw,bz];omega
 |some x =>
  have:=cL (aaB h);simp only[agu,bw];omega
def Cz(a:Ty):bz (au a)+1=bw a:=by
 obtain⟨T,l⟩:=a;rfl
def xO{s:L Ty}(h:∀t∈s,bw t<=300)(i:Nat):bw (s.getD i kX)<=300:=by
 rw[afa];cases O:s[i]? with
 |none=>simp only[Option.getD_none,kX,bw,bz];omega
 |some x=>exact h x (aaB O)
def Am:∀(p:L UInt8)(l:L Nd)(acc r:L Ty),rJ acc->jO p l acc=some r->rJ r
 |[],l,acc,r,h,e=>by simp only[jO]at e;simp at e;subst e;exact h
 |w::p,[],acc,r,h,e=>by simp only[jO]at e;simp at e;subst e;exact h
 |w::p,.mk kind N P S xs::l,acc,r,h,e=>by
  simp only[jO]at e;split at e
  ·split at e
   ·exact Am p l acc r h e
   ·cases e
  ·split at e
   ·split at e
    ·exact Am p l acc r h e
    ·cases e
   ·split at e
    ·split at e
     ·rename_i V T;refine Am p l _ r (λt I=>?_) e;rcases List.mem_append.1 I with I|I
      ·exact h t I
      ·simp at I;subst I;exact cH (jo T)
     ·cases e
    ·exact Am p l acc r h e
def UM{P:Int}{J:L Nd}{B:L Ty}(h:bW P J=some B):rJ B:=by
 unfold bW at h;split at h
 ·cases h
 ·exact Am _ _ _ _ Rc h
def kS{P:Int}{J:L Nd}{B:L Ty}(h:bW P J=some B):B.length<=J.length:=by
 unfold bW at h;split at h
 ·cases h
 ·have:∀(Y:L UInt8)(l:L Nd)(acc r:L Ty),jO Y l acc=some r->r.length<=acc.length+l.length:=by
   intro Y
   induction Y with
   |nil=>intro l acc r e;simp only[jO]at e;simp at e;subst e;omega
   |cons w Y W =>
    intro l acc r e;cases l with
    |nil=>simp only[jO]at e;simp at e;subst e;omega
    |cons x l =>
     obtain⟨k,n,p,s,xs⟩:=x;simp only[jO]at e;simp only[aac];split at e
     ·grind
     ·grind
  have:=this _ _ _ _ h;simpa using this
def aay{l:L Ty}(h:bz l<=2000):HH l:=λt I=>by have:=cL I;omega
def X5(P:Int)(J:L Nd)(s:L Ty)(Y:rJ s):Sm (gV P J s):=by
 have Q:=sI Y;have G:=λi=>xO (λt I=>(Y t I).2) (s:=s) i;unfold gV;refine bG ?_ (bG ?_ (bG ?_ (bG ?_ (bG ?_ (b9 _)))))
 ·rcases s with _|⟨a,r⟩
  ·exact b9 _
  ·exact gP (λt I=>Q t (aeM _ I))
 ·rcases s with _|⟨a,_|⟨b,r⟩⟩
  ·exact b9 _
  ·exact b9 _
  ·exact gP (ee (Q b cS) (ee (Q a cS) (λt I=>Q t (by simp[I]))))
 ·exact bG (gP (ee (by have:=G (Lq (J.getD 0 uo)-1).toNat;omega) Q)) (b9 _)
 ·refine bG (gP (ee (by have:=G (Lq (J.getD 0 uo)).toNat;omega) (Bx ?_ ?_))) (b9 _)
  ·exact λt I=>Q t (afT I)
  ·exact λt I=>Q t (afb I)
 ·rcases s with _|⟨a,r⟩
  ·exact b9 _
  ·refine bG (gP (Bx ?_ (ee (Q a cS) ?_))) (b9 _)
   ·exact λt I=>Q t (aeM _ (afT I))
   ·exact λt I=>Q t (aeM _ (afb I))
def UN(P:Int)(codes:L (L Ty->CR))(B s:L Ty)(Y:rJ s)(I:rJ B)(A:∀i W,HH W->Sm (aV codes i W)):Sm (aX P codes B s):=by
 have Q:=sI Y;have G:=λi=>xO (λt h=>(I t h).2) (s:=B) i;have g0:=G 0;unfold aX;refine bG (gP (ee lS Q)) (bG (gP (ee lS Q)) ?_);rcases s with _|⟨a,r⟩
 ·exact b9 _
 have ha:=(Y a cS).2;have C:HH r:=λt h=>Q t p8;have E:=kC a 0;have S:=kC a 1;have D:=Cz a;dsimp only;refine bG (gP (ee lS C)) (bG (gP (ee lS C)) (bG (gP (ee lS C)) (bG ?_ (bG ?_ (bG ?_ (bG ?_ (bG ?_ (bG ?_ (bG ?_ (bG ?_ (b9 _)))))))))))
 ·rcases r with _|⟨b,q⟩
  ·exact b9 _
  ·have V:=(Y b cS).2;exact gP (ee lS (λt h=>C t p8))
 ·exact bG (gP (Bx (aay bn) C)) (b9 _)
 ·exact bG (gP (ee bn C)) (b9 _)
 ·exact bG (gP (ee bn C)) (b9 _)
 ·rcases r with _|⟨b,q⟩
  ·exact b9 _
  ·exact bG (gP C) (b9 _)
 ·exact bG (vY (A _ _ (ee bn C)) (A _ _ (ee bn C))) (b9 _)
 ·exact bG (vY (A _ _ C) (A _ _ (ee bn C))) (b9 _)
 ·exact bG (vY (A _ _ (ee bn (ee bn C))) (A _ _ C)) (b9 _)
def UO(P:Int)(codes:L (L Ty->CR))(B s:L Ty)(Y:rJ s)(I:rJ B)(E:B.length<=2)(A:∀i W,HH W->Sm (aV codes i W)):Sm (cT P codes B s):=by
 have Q:=sI Y;have V:bz B<=600:=by
  rcases B with _|⟨a,_|⟨b,_|⟨c,l⟩⟩⟩
  ·simp[bz]
  ·have:=(I a cS).2;simp only[bz];omega
  ·have h1:=(I a cS).2;have h2:=(I b cS).2;simp only[bz];omega
  ·simp at E
 unfold cT;refine bG (bG (gP (ee acn Q)) (b9 _)) (bG ?_ (bG ?_ (bG ?_ (bG ?_ (b9 _)))))
 ·rcases s with _|⟨a,r⟩
  ·exact b9 _
  ·exact bG (gP (ee acg (λt h=>Q t p8))) (b9 _)
 ·rcases s with _|⟨a,r⟩
  ·exact b9 _
  ·have C:HH r:=λt h=>Q t p8;have ha:=(Y a cS).2;have U:=kC a 0;have D:=Cz a;refine bG (vY (A _ _ (ee ?_ C)) (gP C)) (b9 _);split
   ·simp only[bw];omega
   ·omega
 ·rcases s with _|⟨a,_|⟨b,q⟩⟩
  ·exact b9 _
  ·exact b9 _
  ·have G:=(Y b cS).2;have S:=kC b 1;exact bG (gP (ee lS (λt h=>Q t p8))) (b9 _)
 ·rcases s with _|⟨a,_|⟨b,_|⟨c,q⟩⟩⟩
  ·exact b9 _
  ·exact b9 _
  ·exact b9 _
  ·exact bG (gP (λt h=>Q t (by simp at h ⊢;rcases h with h|h<;>simp[h]))) (b9 _)
def OQ(P:Int)(J:L Nd)(codes:L (L Ty->CR))(B s:L Ty)(Y:rJ s)(I:rJ B)(E:B.length<=2)(A:∀i W,HH W->Sm (aV codes i W)):Sm (cM P J codes B s):=by
 have Q:=sI Y;have V:bz B<=600:=by
  rcases B with _|⟨a,_|⟨b,_|⟨c,l⟩⟩⟩
  ·simp[bz]
  ·have:=(I a cS).2;simp only[bz];omega
  ·have h1:=(I a cS).2;have h2:=(I b cS).2;simp only[bz];omega
  ·simp at E
 unfold cM;refine bG (bG (b9 _) (bG (b9 _) (gP (ee acn Q)))) (bG ?_ (bG ?_ (bG ?_ (bG ?_ (b9 _)))))
 ·rcases s with _|⟨a,r⟩
  ·exact b9 _
  ·have C:HH r:=λt h=>Q t p8;exact bG (vY (A _ _ C) (A _ _ C)) (b9 _)
 ·rcases s with _|⟨a,r⟩
  ·exact b9 _
  ·have C:HH r:=λt h=>Q t p8;exact bG (bG (b9 _) (gP C)) (b9 _)
 ·rcases s with _|⟨a,_|⟨b,q⟩⟩
  ·exact b9 _
  ·exact b9 _
  ·have G:=(Y b cS).2;have S:=kC b 1;exact bG (gP (ee bn (λt h=>Q t p8))) (b9 _)
 ·rcases s with _|⟨a,r⟩
  ·exact b9 _
  ·have C:HH r:=λt h=>Q t p8;exact bG (b9 _) (bG (b9 _) (gP (ee (Q a cS) (A 0 r C))))
def OR(P:Int)(s:L Ty)(Y:rJ s):Sm (bX P s):=by
 have Q:=sI Y;unfold bX;rcases s with _|⟨a,_|⟨b,q⟩⟩
 all_goals
  dsimp only
  repeat' (first|refine bG ?_ ?_|exact b9 _|refine gP (ee acg ?_)|exact λt h=>Q t p8|(intro t h;simp at h))
 all_goals exact λt h=>Q t (by simp at h ⊢;simp[h])
def X6(P:Int)(B s:L Ty)(Y:rJ s)(I:rJ B):Sm (cx P B s):=by
 have Q:=sI Y;have g0:=xO (λt h=>(I t h).2) (s:=B) 0;unfold cx;rcases s with _|⟨a,r⟩
 ·exact b9 _
 have C:HH r:=λt h=>Q t p8;dsimp only
 refine bG ?_ (bG (bG (gP (ee acg C)) (b9 _)) (bG (bG (gP Q) (b9 _)) (bG ?_ (bG ?_ (bG (bG (gP (ee acg C)) (b9 _))
  (bG (bG (gP (ee lS C)) (b9 _)) (bG (bG (λt h=>by simp at h) (b9 _)) (b9 _))))))))
 ·rcases r with _|⟨b,q⟩
  ·exact b9 _
  ·exact bG (gP (ee acg (λt h=>C t p8))) (b9 _)
 ·rcases r with _|⟨b,q⟩
  ·exact b9 _
  ·exact bG (gP C) (b9 _)
 ·rcases r with _|⟨b,q⟩
  ·exact b9 _
  ·exact bG (gP C) (b9 _)
def UP(P:Int)(B s:L Ty)(Y:rJ s):Sm (cg P B s):=by
 have Q:=sI Y;unfold cg;refine bG (gP (ee acg Q)) (bG (gP (ee acg Q)) ?_);rcases s with _|⟨a,r⟩
 ·exact b9 _
 have ha:=(Y a cS).2;have E:=kC a 0;have C:HH r:=λt h=>Q t p8;dsimp only;refine bG ?_ (bG ?_ (bG ?_ (bG ?_ (bG ?_ (b9 _)))))
 ·rcases r with _|⟨b,q⟩
  ·exact b9 _
  ·exact adE
 ·exact bG (gP (ee lS Q)) (b9 _)
 ·rcases r with _|⟨b,q⟩
  ·exact b9 _
  ·exact adE
 ·exact bG (gP (ee lS C)) (b9 _)
 ·rcases r with _|⟨b,_|⟨c,q⟩⟩
  ·exact b9 _
  ·exact b9 _
  ·exact adE
def OS:∀(l:L Nd)(o:L Ty×Bool),HH o.1->Sm (cE l o)
 |[],o,h=>by simp only[cE];exact h
 |n::l,o,h=>by
  simp only[cE];refine bG (b9 _) ?_;by_cases h2:(mm (fD n o.1)).2≠0
  ·rw[if_pos h2];exact b9 _
  ·rw[if_neg h2];obtain⟨U,a2,D,P⟩:=sZ (r:=fD n o.1) K0;rw[a2];exact OS l _ (sI (s9 P))
def Es(x:Nd)(l:L Nd)(i:Nat)(s:L Ty):aV (bf (x::l)) i s=match i with|0=>cE (cI x) (s,false)|i+1=>aV (bf l) i s:=by
 rw[CA];cases i<;>simp[aV]
def An:∀(l:L Nd)(i:Nat)(Q:L Ty),HH Q->Sm (aV (bf l) i Q)
 |[],i,Q,h=>by simp only[bf,aV,ahz];exact b9 _
 |x::l,0,Q,h=>by rw[Es];exact OS _ _ h
 |x::l,i+1,Q,h=>by rw[Es];exact An l i Q h
def SP{P:Int}{J:L Nd}{B:L Ty}(h:bW P J=some B):B.length<=2:=by
 have h1:=kS h;by_cases Y:P=66
 ·subst Y;obtain⟨x,y,N,p,S,xs,t,u,rfl,rfl,_⟩:=HI h rfl;simp
 ·have h2:(gC P).length<=2:=by
   unfold gC
   repeat' split
   all_goals simp_all
  unfold bW at h;split at h
  ·cases h
  ·omega
def UQ(P:Int)(J:L Nd)(B s:L Ty)(Y:rJ s)(hf:bW P J=some B):Sm (mU P J (bf J) B s):=by
 have I:=UM hf;have E:=SP hf;have G:=xO (λt h=>(I t h).2) (s:=B) 0;unfold mU
 refine bG (X5 _ _ _ Y) (bG (bG (gP (ee bn (sI Y))) (b9 _)) (bG (UN _ _ _ _ Y I (An J)) (bG (UO _ _ _ _ Y I E (An J))
  (bG (OQ _ _ _ _ _ Y I E (An J)) (bG (OR _ _ Y) (bG (X6 _ _ _ Y I) (UP _ _ _ Y)))))))
def X7(n:Nd)(s:L Ty)(Y:rJ s):Sm (fD n s):=by
 obtain⟨T,N,P,S,J⟩:=n;simp only[fD];refine bG (OS _ _ (sI Y)) (bG (b9 _) ?_);cases hf:bW P J with
 |none=>exact b9 _
 |some B=>exact UQ P J B s Y hf
end Go.cK
set_option maxRecDepth 100000
namespace Go.Proofs
open Go.cK
attribute [local irreducible] AK af bg cn aP fY mH gW iT bB cE fD bf jN gD
def Et(P:Int)(s:L Ty)(J:P=69\/P=70\/P=71\/P=72\/93<=P)(E:s.length<=9999999990):ah 75 [.int .i64 P,.sl 2 (aA s)] (jF (bX P s)):=by
 by_cases S:P=93
 ·subst S;rcases s with _|⟨⟨T,us⟩,r⟩
  ·have D:=aq ([]) [3];rw[show gR ([]) [3]=false from by(simp[bZ,b8,aY])<;>assumption]at D;rw[show bX 93 ([])=aR 5 from by simp[bX,bS,aE,au,aaf,aag,aV]];rw[aD bT];refine qn func75 call75 λβ hf=>?_;exact dw
  by_cases V:T=3
  ·subst V;have D:=aq (.mk 3 us::r) [3];rw[show gR (.mk 3 us::r) [3]=true from by(simp[bZ,b8,aY])<;>assumption]at D;have Y:=bE (r) [.mk 4 []];rw[aI]at Y;rw[show bX 93 (.mk 3 us::r)=eT (.mk 4 []::r)from by simp[bX,bS,aE,au,aaf,aag,aV]];rw[aI];refine qn func75 call75 λβ hf=>?_;have vV:=cZ 4;exact dw
  ·have D:=aq (.mk T us::r) [3];rw[show gR (.mk T us::r) [3]=false from by(simp[bZ,b8,aY,V])<;>assumption]at D;rw[show bX 93 (.mk T us::r)=aR 5 from by simp[bX,bS,aE,au,aaf,aag,aV,V]];rw[aD bT];refine qn func75 call75 λβ hf=>?_;exact dw
 by_cases Q:P=94
 ·subst Q;rcases s with _|⟨⟨T,us⟩,r⟩
  ·have D:=aq ([]) [3];rw[show gR ([]) [3]=false from by(simp[bZ,b8,aY])<;>assumption]at D;rw[show bX 94 ([])=aR 5 from by simp[bX,bS,aE,au,aaf,aag,aV]];rw[aD bT];refine qn func75 call75 λβ hf=>?_;exact dw
  by_cases V:T=3
  ·subst V;have D:=aq (.mk 3 us::r) [3];rw[show gR (.mk 3 us::r) [3]=true from by(simp[bZ,b8,aY])<;>assumption]at D;have Y:=bE (r) [.mk 9 [.mk 4 []]];rw[aI]at Y;rw[show bX 94 (.mk 3 us::r)=eT (.mk 9 [.mk 4 []]::r)from by simp[bX,bS,aE,au,aaf,aag,aV]];rw[aI];refine qn func75 call75 λβ hf=>?_;have Ep:=cZ 4;have Ji:=dM 9 [.mk 4 []];exact dw
  ·have D:=aq (.mk T us::r) [3];rw[show gR (.mk T us::r) [3]=false from by(simp[bZ,b8,aY,V])<;>assumption]at D;rw[show bX 94 (.mk T us::r)=aR 5 from by simp[bX,bS,aE,au,aaf,aag,aV,V]];rw[aD bT];refine qn func75 call75 λβ hf=>?_;exact dw
 by_cases O:P=95
 ·subst O;rcases s with _|⟨⟨T,us⟩,r⟩
  ·have D:=aq ([]) [4];rw[show gR ([]) [4]=false from by(simp[bZ,b8,aY])<;>assumption]at D;rw[show bX 95 ([])=aR 5 from by simp[bX,bS,aE,au,aaf,aag,aV]];rw[aD bT];refine qn func75 call75 λβ hf=>?_;exact dw
  by_cases V:T=4
  ·subst V;have D:=aq (.mk 4 us::r) [4];rw[show gR (.mk 4 us::r) [4]=true from by(simp[bZ,b8,aY])<;>assumption]at D;have Y:=bE (r) [.mk 3 []];rw[aI]at Y;rw[show bX 95 (.mk 4 us::r)=eT (.mk 3 []::r)from by simp[bX,bS,aE,au,aaf,aag,aV]];rw[aI];refine qn func75 call75 λβ hf=>?_;have Lr:=cZ 3;exact dw
  ·have D:=aq (.mk T us::r) [4];rw[show gR (.mk T us::r) [4]=false from by(simp[bZ,b8,aY,V])<;>assumption]at D;rw[show bX 95 (.mk T us::r)=aR 5 from by simp[bX,bS,aE,au,aaf,aag,aV,V]];rw[aD bT];refine qn func75 call75 λβ hf=>?_;exact dw
 by_cases N:93<=P
 ·rw[show bX P s=aR 5 from by unfold bX;rw[if_neg S,if_neg Q,if_neg O,if_pos N]];rw[aD bT];have H:(P==93)=false:=by simpa using S
  have M:(P==94)=false:=by simpa using Q
  have e3:(P==95)=false:=by simpa using O
  have e4:decide (P>=93)=true:=aak N;refine qn func75 call75 λβ hf=>?_;exact dw
 have W:P=69\/P=70\/P=71\/P=72:=by omega
 clear J S Q O N;rcases s with _|⟨⟨T,us⟩,_|⟨⟨U,vs⟩,q⟩⟩
 ·rcases W with rfl|rfl|rfl|rfl
  ·rw[show bX 69 ([])=aR 5 from by simp[bX,bS,aE,au,aaf,aag,aV]];rw[aD bT];refine qn func75 call75 λβ hf=>?_;exact dw
  ·rw[show bX 70 ([])=aR 5 from by simp[bX,bS,aE,au,aaf,aag,aV]];rw[aD bT];refine qn func75 call75 λβ hf=>?_;exact dw
  ·rw[show bX 71 ([])=aR 5 from by simp[bX,bS,aE,au,aaf,aag,aV]];rw[aD bT];refine qn func75 call75 λβ hf=>?_;exact dw
  ·rw[show bX 72 ([])=aR 5 from by simp[bX,bS,aE,au,aaf,aag,aV]];rw[aD bT];refine qn func75 call75 λβ hf=>?_;exact dw
 ·rcases W with rfl|rfl|rfl|rfl
  ·rw[show bX 69 ([.mk T us])=aR 5 from by simp[bX,bS,aE,au,aaf,aag,aV]];rw[aD bT];refine qn func75 call75 λβ hf=>?_;exact dw
  ·rw[show bX 70 ([.mk T us])=aR 5 from by simp[bX,bS,aE,au,aaf,aag,aV]];rw[aD bT];refine qn func75 call75 λβ hf=>?_;exact dw
  ·rw[show bX 71 ([.mk T us])=aR 5 from by simp[bX,bS,aE,au,aaf,aag,aV]];rw[aD bT];refine qn func75 call75 λβ hf=>?_;exact dw
  ·rw[show bX 72 ([.mk T us])=aR 5 from by simp[bX,bS,aE,au,aaf,aag,aV]];rw[aD bT];refine qn func75 call75 λβ hf=>?_;exact dw
 have C:=ON P T U W
 have G:∀t,oq P T U=t->bX P (.mk T us :: .mk U vs::q)=(if t=0 then aR 5 else if P=70/\t=5 then eT (.mk 9 [.mk 5 []]::q)else if P≠72 then eT (.mk t []::q)
   else eT (.mk 9 [.mk 11 [.mk (if T=5/\U=5 then 4 else t) [],.mk (if T=5 then 5 else 4) []]]::q)):=by
  rintro t rfl
  conv=>lhs;unfold bX
  rw[if_neg bn,if_neg bn,if_neg bn,if_neg bn];rfl
 generalize oq P T U=t at C G;rw[G t rfl];clear G;simp only[aac]at E;by_cases I:t=0
 ·subst I;rw[if_pos Z,aD bT];rcases W with rfl|rfl|rfl|rfl
  all_goals
   refine qn func75 call75 λβ hf=>?_;exact dw
 rw[if_neg I];have H:(t==0)=false:=by simpa using I
 rcases W with rfl|rfl|rfl|rfl
 ·rw[if_neg bn,if_pos bT];have Y:=bE (q) [.mk t []];rw[aI]at Y;rw[aI];refine qn func75 call75 λβ hf=>?_;have Ls:=cZ t;exact dw
 ·by_cases K:t=5
  ·subst K;rw[if_pos ⟨Z,Z⟩];have Y:=bE (q) [.mk 9 [.mk 5 []]];rw[aI]at Y;rw[aI];refine qn func75 call75 λβ hf=>?_;have OT:=cZ 5;have US:=dM 9 [.mk 5 []];exact dw
  ·have M:(t==5)=false:=by simpa using K
   rw[if_neg (λh=>K h.2),if_pos bT];have Y:=bE (q) [.mk t []];rw[aI]at Y;rw[aI];refine qn func75 call75 λβ hf=>?_;have X8:=cZ t;exact dw
 ·rw[if_neg bn,if_pos bT];have Y:=bE (q) [.mk t []];rw[aI]at Y;rw[aI];refine qn func75 call75 λβ hf=>?_;have B:=cZ t;exact dw
 ·rw[if_neg bn,if_neg bT];by_cases V:T=5
  ·subst V;by_cases p:U=5
   ·subst p;rw[if_pos ⟨Z,Z⟩,if_pos rfl];have Y:=bE (q) [.mk 9 [.mk 11 [.mk 4 [],.mk 5 []]]];rw[aI]at Y;rw[aI];refine qn func75 call75 λβ hf=>?_;have ZQ:=cZ 4;have ZR:=cZ 5;have ZT:=dM 11 [.mk 4 [],.mk 5 []];have A:=dM 9 [.mk 11 [.mk 4 [],.mk 5 []]];exact dw
   ·have M:(U==5)=false:=by simpa using p
    rw[if_neg (λh=>p h.2),if_pos rfl];have Y:=bE (q) [.mk 9 [.mk 11 [.mk t [],.mk 5 []]]];rw[aI]at Y;rw[aI];refine qn func75 call75 λβ hf=>?_;have u:=cZ 4;have ag1:=cZ 5;have ag2:=cZ t;have ag3:=dM 11 [.mk t [],.mk 5 []];have ag4:=dM 9 [.mk 11 [.mk t [],.mk 5 []]];exact dw
  ·have M:(T==5)=false:=by simpa using V
   rw[if_neg (λh=>V h.1),if_neg V];have Y:=bE (q) [.mk 9 [.mk 11 [.mk t [],.mk 4 []]]];rw[aI]at Y;rw[aI];refine qn func75 call75 λβ hf=>?_;have ag5:=cZ 4;have ag6:=cZ t;have ag7:=dM 11 [.mk t [],.mk 4 []];have ag8:=dM 9 [.mk 11 [.mk t [],.mk 4 []]];exact dw
end Go.Proofs
namespace Go.Proofs
open Go.cK
attribute [local irreducible] AK af bg cn aP fY mH gW iT bB cE fD bf jN gD
def Lt(P:Int)(J:L Nd)(B s:L Ty)(O:73<=P/\P<=83)(hf:bW P J=some B)(G:rJ s)(E:s.length<=9999999990):ah 76 [.int .i64 P,.sl 2 (aA B),.sl 2 (aA s)] (jF (cx P B s)):=by
 have N:P=73\/P=74\/P=75\/P=76\/P=77\/P=78\/P=79\/P=80\/P=81\/P=82\/P=83:=by omega
 clear O;rcases N with rfl|rfl|rfl|rfl|rfl|rfl|rfl|rfl|rfl|rfl|rfl
 ·obtain⟨rfl,rfl⟩:=dN hf rfl;clear hf;rcases s with _|⟨⟨T,us⟩,_|⟨⟨U,vs⟩,q⟩⟩
  ·rw[show cx 73 ([]) ([])=aR 5 from by simp[cx,bS,aE,au,aaf,aag,aV]];rw[aD bT];refine qn func76 call76 λβ hf=>?_;exact dw
  ·rw[show cx 73 ([]) ([.mk T us])=aR 5 from by simp[cx,bS,aE,au,aaf,aag,aV]];rw[aD bT];refine qn func76 call76 λβ hf=>?_;exact dw
  have h1:=gU (.mk T us) (.mk U vs) lf;have h2:=lT (.mk T us) lf;cases g1:dh (.mk T us) (.mk U vs)
  ·rw[g1]at h1;rw[show cx 73 ([]) (.mk T us :: .mk U vs::q)=aR 5 from by simp[cx,bS,aE,au,aaf,aag,aV,g1]];rw[aD bT];refine qn func76 call76 λβ hf=>?_;exact dw
  cases H:fY (.mk T us)
  ·rw[g1]at h1;rw[H]at h2;rw[show cx 73 ([]) (.mk T us :: .mk U vs::q)=aR 5 from by simp[cx,bS,aE,au,aaf,aag,aV,g1,H]];rw[aD bT];refine qn func76 call76 λβ hf=>?_;exact dw
  ·rw[g1]at h1;rw[H]at h2;have M:=zd (aA (.mk T us :: .mk U vs::q)) 1 CK;have W:=bE (q) [.mk 3 []];rw[aI]at W;rw[show cx 73 ([]) (.mk T us :: .mk U vs::q)=eT (.mk 3 []::q)from by simp[cx,bS,aE,au,aaf,aag,aV,g1,H]];rw[aI];refine qn func76 call76 λβ hf=>?_;have K:=cZ 3;exact dw
 ·obtain⟨rfl,rfl⟩:=dN hf rfl;clear hf;rcases s with _|⟨⟨T,us⟩,r⟩
  ·have D:=aq ([]) [3];rw[show gR ([]) [3]=false from by(simp[bZ,b8,aY])<;>assumption]at D;rw[show cx 74 ([]) ([])=aR 5 from by simp[cx,bS,aE,au,aaf,aag,aV]];rw[aD bT];refine qn func76 call76 λβ hf=>?_;exact dw
  by_cases Y:T=3
  ·subst Y;have D:=aq (.mk 3 us::r) [3];rw[show gR (.mk 3 us::r) [3]=true from by(simp[bZ,b8,aY])<;>assumption]at D;have W:=bE (r) [.mk 2 []];rw[aI]at W;rw[show cx 74 ([]) (.mk 3 us::r)=eT (.mk 2 []::r)from by simp[cx,bS,aE,au,aaf,aag,aV]];rw[aI];refine qn func76 call76 λβ hf=>?_;have C:=cZ 2;exact dw
  ·have D:=aq (.mk T us::r) [3];rw[show gR (.mk T us::r) [3]=false from by(simp[bZ,b8,aY,Y])<;>assumption]at D;rw[show cx 74 ([]) (.mk T us::r)=aR 5 from by simp[cx,bS,aE,au,aaf,aag,aV,Y]];rw[aD bT];refine qn func76 call76 λβ hf=>?_;exact dw
 ·obtain⟨rfl,rfl⟩:=dN hf rfl;clear hf;rcases s with _|⟨⟨T,us⟩,r⟩
  ·have D:=aq ([]) [3];rw[show gR ([]) [3]=false from by(simp[bZ,b8,aY])<;>assumption]at D;rw[show cx 75 ([]) ([])=aR 5 from by simp[cx,bS,aE,au,aaf,aag,aV]];rw[aD bT];refine qn func76 call76 λβ hf=>?_;exact dw
  by_cases Y:T=3
  ·subst Y;have D:=aq (.mk 3 us::r) [3];rw[show gR (.mk 3 us::r) [3]=true from by(simp[bZ,b8,aY])<;>assumption]at D;have W:=bE (r) [.mk 2 []];rw[aI]at W;rw[show cx 75 ([]) (.mk 3 us::r)=eT (.mk 2 []::r)from by simp[cx,bS,aE,au,aaf,aag,aV]];rw[aI];refine qn func76 call76 λβ hf=>?_;have A:=cZ 2;exact dw
  ·have D:=aq (.mk T us::r) [3];rw[show gR (.mk T us::r) [3]=false from by(simp[bZ,b8,aY,Y])<;>assumption]at D;rw[show cx 75 ([]) (.mk T us::r)=aR 5 from by simp[cx,bS,aE,au,aaf,aag,aV,Y]];rw[aD bT];refine qn func76 call76 λβ hf=>?_;exact dw
 ·obtain⟨rfl,rfl⟩:=dN hf rfl;clear hf;rcases s with _|⟨⟨T,us⟩,r⟩
  ·have D:=aq ([]) [3];rw[show gR ([]) [3]=false from by(simp[bZ,b8,aY])<;>assumption]at D;rw[show cx 76 ([]) ([])=aR 5 from by simp[cx,bS,aE,au,aaf,aag,aV]];rw[aD bT];refine qn func76 call76 λβ hf=>?_;exact dw
  by_cases Y:T=3
  ·subst Y;have D:=aq (.mk 3 us::r) [3];rw[show gR (.mk 3 us::r) [3]=true from by(simp[bZ,b8,aY])<;>assumption]at D;have W:=bE (r) [.mk 2 []];rw[aI]at W;rw[show cx 76 ([]) (.mk 3 us::r)=eT (.mk 2 []::r)from by simp[cx,bS,aE,au,aaf,aag,aV]];rw[aI];refine qn func76 call76 λβ hf=>?_;have u:=cZ 2;exact dw
  ·have D:=aq (.mk T us::r) [3];rw[show gR (.mk T us::r) [3]=false from by(simp[bZ,b8,aY,Y])<;>assumption]at D;rw[show cx 76 ([]) (.mk T us::r)=aR 5 from by simp[cx,bS,aE,au,aaf,aag,aV,Y]];rw[aD bT];refine qn func76 call76 λβ hf=>?_;exact dw
 ·obtain⟨rfl,rfl⟩:=dN hf rfl;clear hf;rcases s with _|⟨⟨T,us⟩,r⟩
  ·have D:=aq ([]) [2];rw[show gR ([]) [2]=false from by(simp[bZ,b8,aY])<;>assumption]at D;rw[show cx 77 ([]) ([])=aR 5 from by simp[cx,bS,aE,au,aaf,aag,aV]];rw[aD bT];refine qn func76 call76 λβ hf=>?_;exact dw
  by_cases Y:T=2
  ·subst Y;have D:=aq (.mk 2 us::r) [2];rw[show gR (.mk 2 us::r) [2]=true from by(simp[bZ,b8,aY])<;>assumption]at D;have W:=ke (.mk 2 us::r);rw[aI]at W;rw[show cx 77 ([]) (.mk 2 us::r)=eT (.mk 2 us::r)from by simp[cx,bS,aE,au,aaf,aag,aV]];rw[aI];refine qn func76 call76 λβ hf=>?_;exact dw
  ·have D:=aq (.mk T us::r) [2];rw[show gR (.mk T us::r) [2]=false from by(simp[bZ,b8,aY,Y])<;>assumption]at D;rw[show cx 77 ([]) (.mk T us::r)=aR 5 from by simp[cx,bS,aE,au,aaf,aag,aV,Y]];rw[aD bT];refine qn func76 call76 λβ hf=>?_;exact dw
 ·obtain⟨rfl,rfl⟩:=dN hf rfl;clear hf;rcases s with _|⟨⟨T,us⟩,_|⟨⟨U,vs⟩,q⟩⟩
  ·have D:=aq ([]) [2,2];rw[show gR ([]) [2,2]=false from by(simp[bZ,b8,aY])<;>assumption]at D;rw[show cx 78 ([]) ([])=aR 5 from by simp[cx,bS,aE,au,aaf,aag,aV]];rw[aD bT];refine qn func76 call76 λβ hf=>?_;exact dw
  ·have D:=aq ([.mk T us]) [2,2];rw[show gR ([.mk T us]) [2,2]=false from by(simp[bZ,b8,aY])<;>assumption]at D;rw[show cx 78 ([]) ([.mk T us])=aR 5 from by simp[cx,bS,aE,au,aaf,aag,aV]];rw[aD bT];refine qn func76 call76 λβ hf=>?_;exact dw
  by_cases Y:T=2/\U=2
  ·obtain⟨rfl,rfl⟩:=Y;have D:=aq (.mk 2 us :: .mk 2 vs::q) [2,2];rw[show gR (.mk 2 us :: .mk 2 vs::q) [2,2]=true from by(simp[bZ,b8,aY])<;>assumption]at D;have W:=ke (.mk 2 vs::q);rw[aI]at W;rw[show cx 78 ([]) (.mk 2 us :: .mk 2 vs::q)=eT (.mk 2 vs::q)from by simp[cx,bS,aE,au,aaf,aag,aV]];rw[aI];refine qn func76 call76 λβ hf=>?_;exact dw
  ·have S:T=2->¬U=2:=λa b=>Y ⟨a,b⟩;have D:=aq (.mk T us :: .mk U vs::q) [2,2];rw[show gR (.mk T us :: .mk U vs::q) [2,2]=false from by(simp[bZ,b8,aY,S])<;>assumption]at D;rw[show cx 78 ([]) (.mk T us :: .mk U vs::q)=aR 5 from by simp[cx,bS,aE,au,aaf,aag,aV,Y]];rw[aD bT];refine qn func76 call76 λβ hf=>?_;exact dw
 ·obtain⟨rfl,rfl⟩:=dN hf rfl;clear hf;rcases s with _|⟨⟨T,us⟩,_|⟨⟨U,vs⟩,q⟩⟩
  ·have D:=aq ([]) [2,2];rw[show gR ([]) [2,2]=false from by(simp[bZ,b8,aY])<;>assumption]at D;rw[show cx 79 ([]) ([])=aR 5 from by simp[cx,bS,aE,au,aaf,aag,aV]];rw[aD bT];refine qn func76 call76 λβ hf=>?_;exact dw
  ·have D:=aq ([.mk T us]) [2,2];rw[show gR ([.mk T us]) [2,2]=false from by(simp[bZ,b8,aY])<;>assumption]at D;rw[show cx 79 ([]) ([.mk T us])=aR 5 from by simp[cx,bS,aE,au,aaf,aag,aV]];rw[aD bT];refine qn func76 call76 λβ hf=>?_;exact dw
  by_cases Y:T=2/\U=2
  ·obtain⟨rfl,rfl⟩:=Y;have D:=aq (.mk 2 us :: .mk 2 vs::q) [2,2];rw[show gR (.mk 2 us :: .mk 2 vs::q) [2,2]=true from by(simp[bZ,b8,aY])<;>assumption]at D;have W:=ke (.mk 2 vs::q);rw[aI]at W;rw[show cx 79 ([]) (.mk 2 us :: .mk 2 vs::q)=eT (.mk 2 vs::q)from by simp[cx,bS,aE,au,aaf,aag,aV]];rw[aI];refine qn func76 call76 λβ hf=>?_;exact dw
  ·have S:T=2->¬U=2:=λa b=>Y ⟨a,b⟩;have D:=aq (.mk T us :: .mk U vs::q) [2,2];rw[show gR (.mk T us :: .mk U vs::q) [2,2]=false from by(simp[bZ,b8,aY,S])<;>assumption]at D;rw[show cx 79 ([]) (.mk T us :: .mk U vs::q)=aR 5 from by simp[cx,bS,aE,au,aaf,aag,aV,Y]];rw[aD bT];refine qn func76 call76 λβ hf=>?_;exact dw
 ·obtain⟨rfl,rfl⟩:=dN hf rfl;clear hf;rcases s with _|⟨⟨T,us⟩,_|⟨⟨U,vs⟩,q⟩⟩
  ·have D:=aq ([]) [6,6];rw[show gR ([]) [6,6]=false from by(simp[bZ,b8,aY])<;>assumption]at D;rw[show cx 80 ([]) ([])=aR 5 from by simp[cx,bS,aE,au,aaf,aag,aV]];rw[aD bT];refine qn func76 call76 λβ hf=>?_;exact dw
  ·have D:=aq ([.mk T us]) [6,6];rw[show gR ([.mk T us]) [6,6]=false from by(simp[bZ,b8,aY])<;>assumption]at D;rw[show cx 80 ([]) ([.mk T us])=aR 5 from by simp[cx,bS,aE,au,aaf,aag,aV]];rw[aD bT];refine qn func76 call76 λβ hf=>?_;exact dw
  by_cases Y:T=6/\U=6
  ·obtain⟨rfl,rfl⟩:=Y;have D:=aq (.mk 6 us :: .mk 6 vs::q) [6,6];rw[show gR (.mk 6 us :: .mk 6 vs::q) [6,6]=true from by(simp[bZ,b8,aY])<;>assumption]at D;have W:=ke (.mk 6 vs::q);rw[aI]at W;rw[show cx 80 ([]) (.mk 6 us :: .mk 6 vs::q)=eT (.mk 6 vs::q)from by simp[cx,bS,aE,au,aaf,aag,aV]];rw[aI];refine qn func76 call76 λβ hf=>?_;exact dw
  ·have S:T=6->¬U=6:=λa b=>Y ⟨a,b⟩;have D:=aq (.mk T us :: .mk U vs::q) [6,6];rw[show gR (.mk T us :: .mk U vs::q) [6,6]=false from by(simp[bZ,b8,aY,S])<;>assumption]at D;rw[show cx 80 ([]) (.mk T us :: .mk U vs::q)=aR 5 from by simp[cx,bS,aE,au,aaf,aag,aV,Y]];rw[aD bT];refine qn func76 call76 λβ hf=>?_;exact dw
 ·obtain⟨rfl,rfl⟩:=dN hf rfl;clear hf;rcases s with _|⟨⟨T,us⟩,r⟩
  ·rw[show cx 81 ([]) ([])=aR 5 from by simp[cx,bS,aE,au,aaf,aag,aV]];rw[aD bT];refine qn func76 call76 λβ hf=>?_;exact dw
  have h2:=nC (.mk T us) lf;have Q:=zd (aA (.mk T us::r)) 0 CK;cases H:gW (.mk T us)
  ·rw[H]at h2;rw[show cx 81 ([]) (.mk T us::r)=aR 5 from by simp[cx,bS,aE,au,aaf,aag,aV,H]];rw[aD bT];refine qn func76 call76 λβ hf=>?_;exact dw
  ·rw[H]at h2;have W:=bE (r) [.mk 6 []];rw[aI]at W;rw[show cx 81 ([]) (.mk T us::r)=eT (.mk 6 []::r)from by simp[cx,bS,aE,au,aaf,aag,aV,H]];rw[aI];refine qn func76 call76 λβ hf=>?_;have Ls:=cZ 6;exact dw
 ·obtain⟨x,t,rfl,rfl,I⟩:=xP hf rfl;clear hf;have ZU:=I.2;obtain⟨V,p⟩:=t;have h2:=nC (.mk V p) bn;rcases s with _|⟨⟨T,us⟩,r⟩
  ·have D:=aq ([]) [6];rw[show gR ([]) [6]=false from by(simp[bZ,b8,aY])<;>assumption]at D;rw[show cx 82 ([.mk V p]) ([])=aR 5 from by simp[cx,bS,aE,au,aaf,aag,aV]];rw[aD bT];refine qn func76 call76 λβ hf=>?_;exact dw
  by_cases Y:T=6
  ·subst Y;have D:=aq (.mk 6 us::r) [6];rw[show gR (.mk 6 us::r) [6]=true from by(simp[bZ,b8,aY])<;>assumption]at D;cases H:gW (.mk V p)
   ·rw[H]at h2;rw[show cx 82 ([.mk V p]) (.mk 6 us::r)=aR 5 from by simp[cx,bS,aE,au,aaf,aag,aV,H]];rw[aD bT];refine qn func76 call76 λβ hf=>?_;exact dw
   ·rw[H]at h2;have W:=bE (r) [.mk 9 [.mk V p]];rw[aI]at W;rw[show cx 82 ([.mk V p]) (.mk 6 us::r)=eT (.mk 9 [.mk V p]::r)from by simp[cx,bS,aE,au,aaf,aag,aV,H]];rw[aI];refine qn func76 call76 λβ hf=>?_;have OT:=dM 9 [.mk V p];exact dw
  ·have D:=aq (.mk T us::r) [6];rw[show gR (.mk T us::r) [6]=false from by(simp[bZ,b8,aY,Y])<;>assumption]at D;rw[show cx 82 ([.mk V p]) (.mk T us::r)=aR 5 from by simp[cx,bS,aE,au,aaf,aag,aV,Y]];rw[aD bT];refine qn func76 call76 λβ hf=>?_;exact dw
 ·obtain⟨rfl,rfl⟩:=dN hf rfl;clear hf;rcases s with _|⟨⟨T,us⟩,r⟩
  ·rw[show cx 83 ([]) ([])=aR 5 from by simp[cx,bS,aE,au,aaf,aag,aV]];rw[aD bT];refine qn func76 call76 λβ hf=>?_;exact dw
  have h2:=nC (.mk T us) lf;have Q:=zd (aA (.mk T us::r)) 0 CK;cases H:gW (.mk T us)
  ·rw[H]at h2;rw[show cx 83 ([]) (.mk T us::r)=aR 5 from by simp[cx,bS,aE,au,aaf,aag,aV,H]];rw[aD bT];refine qn func76 call76 λβ hf=>?_;exact dw
  ·rw[H]at h2;rw[show cx 83 ([]) (.mk T us::r)=(([],true),0)from by simp[cx,bS,aE,au,aaf,aag,aV,H]];rw[Ll];refine qn func76 call76 λβ hf=>?_;exact dw
end Go.Proofs
