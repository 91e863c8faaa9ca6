/- The types that a step leads to are small. -/
import Derived.Test.YtdnpapgijbhofaaGreatDoorKind5
import Derived.Test.YtdnpapgijbhofaaGreatDoorChk3
open Go.Proofs.Tryz
set_option linter.defProp false
set_option maxHeartbeats 0
set_option linter.unusedVariables false
set_option linter.unusedSimpArgs false
set_option maxRecDepth 100000
namespace Go.cM
def Sm(r:CR):Prop:=∀t∈r.1.1,bw t<=2000
def DT(s:L Ty):Prop:=∀t∈s,bw t<=2000
def fM{s:L Ty}(h:DT s):Sm (dX s):=h
def bT(e:Int):Sm (aM e):=λt I=>by simp[aM]at I
def bB{p:Prop}[Decidable p]{a b:CR}(h1:Sm a)(h2:Sm b):Sm (if p then a else b):=by grind
def dA{t:Ty}{s:L Ty}(h1:bw t<=2000)(h2:DT s):DT (t::s):=λx I=>by
 rcases List.mem_cons.1 I with rfl|I
 ·exact h1
 ·exact h2 x I
def qa{s:L Ty}(h:pz s):DT s:=λt I=>by have:=(h t I).2;omega
def yh{a b:L Ty}(h1:DT a)(h2:DT b):DT (a++b):=λx I=>by
 rcases List.mem_append.1 I with I|I
 ·exact h1 x I
 ·exact h2 x I
def sV{a b:CR}(W:Sm a)(A:Sm b):Sm (cR a b):=by
 unfold cR;refine bB (bT _) (bB (bT _) (bB A (bB W (bT _))))
def iU(a:Ty)(i:Nat):bw (aD a i)<=bw a:=by
 obtain⟨T,l⟩:=a;show bw (l.getD i kG)<=_;rw[aaS];cases h:l[i]? with
 |none=>simp only[Option.getD_none,kG,bw,bg];omega
 |some x =>
  have:=cA (aaA h);simp only[abJ,bw];omega
def zz(a:Ty):bg (aq a)+1=bw a:=by
 obtain⟨T,l⟩:=a;rfl
def um{s:L Ty}(h:∀t∈s,bw t<=300)(i:Nat):bw (s.getD i kG)<=300:=by
 rw[aaS];cases Y:s[i]? with
 |none=>simp only[Option.getD_none,kG,bw,bg];omega
 |some x=>exact h x (aaA Y)
def wO:∀(J:L UInt8)(l:L Nd)(acc r:L Ty),pz acc->iB J l acc=some r->pz r
 |[],l,acc,r,h,e=>by simp only[iB]at e;simp at e;subst e;exact h
 |w::J,[],acc,r,h,e=>by simp only[iB]at e;simp at e;subst e;exact h
 |w::J,.mk kind N P S xs::l,acc,r,h,e=>by
  simp only[iB]at e;split at e
  ·split at e
   ·exact wO J l acc r h e
   ·cases e
  ·split at e
   ·split at e
    ·exact wO J l acc r h e
    ·cases e
   ·split at e
    ·split at e
     ·rename_i K W;refine wO J l _ r (λt I=>?_) e;rcases List.mem_append.1 I with I|I
      ·exact h t I
      ·simp at I;subst I;exact cG (jG W)
     ·cases e
    ·exact wO J l acc r h e
def O4{P:Int}{J:L Nd}{Y:L Ty}(h:bJ P J=some Y):pz Y:=by
 unfold bJ at h;split at h
 ·cases h
 ·exact wO _ _ _ _ LY h
def jk{P:Int}{J:L Nd}{Y:L Ty}(h:bJ P J=some Y):Y.length<=J.length:=by
 unfold bJ at h;split at h
 ·cases h
 ·have:∀(W:L UInt8)(l:L Nd)(acc r:L Ty),iB W l acc=some r->r.length<=acc.length+l.length:=by
   intro W
   induction W with
   |nil=>intro l acc r e;simp only[iB]at e;simp at e;subst e;omega
   |cons w W O =>
    intro l acc r e;cases l with
    |nil=>simp only[iB]at e;simp at e;subst e;omega
    |cons x l =>
     obtain⟨k,n,p,s,xs⟩:=x;simp only[iB]at e;simp only[aac];split at e
     ·grind
     ·grind
  have:=this _ _ _ _ h;simpa using this
def Uv{l:L Ty}(h:bg l<=2000):DT l:=λt I=>by have:=cA I;omega
def Sd(P:Int)(J:L Nd)(s:L Ty)(V:pz s):Sm (fW P J s):=by
 have p:=qa V;have N:=λi=>um (λt I=>(V t I).2) (s:=s) i;unfold fW;refine bB ?_ (bB ?_ (bB ?_ (bB ?_ (bB ?_ (bT _)))))
 ·rcases s with _|⟨a,r⟩
  ·exact bT _
  ·exact fM (λt I=>p t (aaM _ I))
 ·rcases s with _|⟨a,_|⟨b,r⟩⟩
  ·exact bT _
  ·exact bT _
  ·exact fM (dA (p b ek) (dA (p a ek) (λt I=>p t (by simp[I]))))
 ·exact bB (fM (dA (by have:=N (G4 (J.getD 0 qV)-1).toNat;omega) p)) (bT _)
 ·refine bB (fM (dA (by have:=N (G4 (J.getD 0 qV)).toNat;omega) (yh ?_ ?_))) (bT _)
  ·exact λt I=>p t (abL I)
  ·exact λt I=>p t (abb I)
 ·rcases s with _|⟨a,r⟩
  ·exact bT _
  ·refine bB (fM (yh ?_ (dA (p a ek) ?_))) (bT _)
   ·exact λt I=>p t (aaM _ (abL I))
   ·exact λt I=>p t (aaM _ (abb I))
def O5(P:Int)(W:L (L Ty->CR))(Y s:L Ty)(V:pz s)(I:pz Y)(A:∀i U,DT U->Sm (aQ W i U)):Sm (aV P W Y s):=by
 have p:=qa V;have N:=λi=>um (λt h=>(I t h).2) (s:=Y) i;have g0:=N 0;unfold aV;refine bB (fM (dA nt p)) (bB (fM (dA nt p)) ?_);rcases s with _|⟨a,r⟩
 ·exact bT _
 have T:=(V a ek).2;have E:DT r:=λt h=>p t ri;have S:=iU a 0;have M:=iU a 1;have B:=zz a;dsimp only;refine bB (fM (dA nt E)) (bB (fM (dA nt E)) (bB (fM (dA nt E)) (bB ?_ (bB ?_ (bB ?_ (bB ?_ (bB ?_ (bB ?_ (bB ?_ (bB ?_ (bT _)))))))))))
 ·rcases r with _|⟨b,q⟩
  ·exact bT _
  ·have Q:=(V b ek).2;exact fM (dA nt (λt h=>E t ri))
 ·exact bB (fM (yh (Uv bn) E)) (bT _)
 ·exact bB (fM (dA bn E)) (bT _)
 ·exact bB (fM (dA bn E)) (bT _)
 ·rcases r with _|⟨b,q⟩
  ·exact bT _
  ·exact bB (fM E) (bT _)
 ·exact bB (sV (A _ _ (dA bn E)) (A _ _ (dA bn E))) (bT _)
 ·exact bB (sV (A _ _ E) (A _ _ (dA bn E))) (bT _)
 ·exact bB (sV (A _ _ (dA bn (dA bn E))) (A _ _ E)) (bT _)
def O6(P:Int)(W:L (L Ty->CR))(Y s:L Ty)(V:pz s)(I:pz Y)(B:Y.length<=2)(A:∀i U,DT U->Sm (aQ W i U)):Sm (cH P W Y s):=by
 have p:=qa V;have T:bg Y<=600:=by
  rcases Y with _|⟨a,_|⟨b,_|⟨c,l⟩⟩⟩
  ·simp[bg]
  ·have:=(I a ek).2;simp only[bg];omega
  ·have h1:=(I a ek).2;have h2:=(I b ek).2;simp only[bg];omega
  ·simp at B
 unfold cH;refine bB (bB (fM (dA (by simp only[bw];omega) p)) (bT _)) (bB ?_ (bB ?_ (bB ?_ (bB ?_ (bT _)))))
 ·rcases s with _|⟨a,r⟩
  ·exact bT _
  ·exact bB (fM (dA UU (λt h=>p t ri))) (bT _)
 ·rcases s with _|⟨a,r⟩
  ·exact bT _
  ·have E:DT r:=λt h=>p t ri;have S:=(V a ek).2;have Q:=iU a 0;have O:=zz a;refine bB (sV (A _ _ (dA ?_ E)) (fM E)) (bT _);split
   ·simp only[bw];omega
   ·omega
 ·rcases s with _|⟨a,_|⟨b,q⟩⟩
  ·exact bT _
  ·exact bT _
  ·have N:=(V b ek).2;have M:=iU b 1;exact bB (fM (dA nt (λt h=>p t ri))) (bT _)
 ·rcases s with _|⟨a,_|⟨b,_|⟨c,q⟩⟩⟩
  ·exact bT _
  ·exact bT _
  ·exact bT _
  ·exact bB (fM (λt h=>p t (by simp at h ⊢;rcases h with h|h<;>simp[h]))) (bT _)
def JT(P:Int)(J:L Nd)(W:L (L Ty->CR))(Y s:L Ty)(V:pz s)(I:pz Y)(B:Y.length<=2)(A:∀i U,DT U->Sm (aQ W i U)):Sm (cD P J W Y s):=by
 have p:=qa V;have T:bg Y<=600:=by
  rcases Y with _|⟨a,_|⟨b,_|⟨c,l⟩⟩⟩
  ·simp[bg]
  ·have:=(I a ek).2;simp only[bg];omega
  ·have h1:=(I a ek).2;have h2:=(I b ek).2;simp only[bg];omega
  ·simp at B
 unfold cD;refine bB (bB (bT _) (bB (bT _) (fM (dA (by simp only[bw];omega) p)))) (bB ?_ (bB ?_ (bB ?_ (bB ?_ (bT _)))))
 ·rcases s with _|⟨a,r⟩
  ·exact bT _
  ·have E:DT r:=λt h=>p t ri;exact bB (sV (A _ _ E) (A _ _ E)) (bT _)
 ·rcases s with _|⟨a,r⟩
  ·exact bT _
  ·have E:DT r:=λt h=>p t ri;exact bB (bB (bT _) (fM E)) (bT _)
 ·rcases s with _|⟨a,_|⟨b,q⟩⟩
  ·exact bT _
  ·exact bT _
  ·have S:=(V b ek).2;have M:=iU b 1;exact bB (fM (dA bn (λt h=>p t ri))) (bT _)
 ·rcases s with _|⟨a,r⟩
  ·exact bT _
  ·have E:DT r:=λt h=>p t ri;exact bB (bT _) (bB (bT _) (fM (dA (p a ek) (A 0 r E))))
def JU(P:Int)(s:L Ty)(V:pz s):Sm (bN P s):=by
 have p:=qa V;unfold bN;rcases s with _|⟨a,_|⟨b,q⟩⟩
 all_goals
  dsimp only
  repeat' (first|refine bB ?_ ?_|exact bT _|refine fM (dA UU ?_)|exact λt h=>p t ri|(intro t h;simp at h))
 all_goals exact λt h=>p t (by simp at h ⊢;simp[h])
def Se(P:Int)(Y s:L Ty)(V:pz s)(I:pz Y):Sm (b8 P Y s):=by
 have p:=qa V;have g0:=um (λt h=>(I t h).2) (s:=Y) 0;unfold b8;rcases s with _|⟨a,r⟩
 ·exact bT _
 have E:DT r:=λt h=>p t ri;dsimp only
 refine bB ?_ (bB (bB (fM (dA UU E)) (bT _)) (bB (bB (fM p) (bT _)) (bB ?_ (bB ?_ (bB (bB (fM (dA UU E)) (bT _))
  (bB (bB (fM (dA nt E)) (bT _)) (bB (bB (λt h=>by simp at h) (bT _)) (bT _))))))))
 ·rcases r with _|⟨b,q⟩
  ·exact bT _
  ·exact bB (fM (dA UU (λt h=>E t ri))) (bT _)
 ·rcases r with _|⟨b,q⟩
  ·exact bT _
  ·exact bB (fM E) (bT _)
 ·rcases r with _|⟨b,q⟩
  ·exact bT _
  ·exact bB (fM E) (bT _)
def O7(P:Int)(Y s:L Ty)(V:pz s):Sm (bU P Y s):=by
 have p:=qa V;unfold bU;refine bB (fM (dA UU p)) (bB (fM (dA UU p)) ?_);rcases s with _|⟨a,r⟩
 ·exact bT _
 have W:=(V a ek).2;have U:=iU a 0;have E:DT r:=λt h=>p t ri;dsimp only;refine bB ?_ (bB ?_ (bB ?_ (bB ?_ (bB ?_ (bT _)))))
 ·rcases r with _|⟨b,q⟩
  ·exact bT _
  ·exact YH
 ·exact bB (fM (dA nt p)) (bT _)
 ·rcases r with _|⟨b,q⟩
  ·exact bT _
  ·exact YH
 ·exact bB (fM (dA nt E)) (bT _)
 ·rcases r with _|⟨b,_|⟨c,q⟩⟩
  ·exact bT _
  ·exact bT _
  ·exact YH
def JV:∀(l:L Nd)(o:L Ty×Bool),DT o.1->Sm (cy l o)
 |[],o,h=>by simp only[cy];exact h
 |n::l,o,h=>by
  simp only[cy];refine bB (bT _) ?_;by_cases h2:(ld (fu n o.1)).2≠0
  ·rw[if_pos h2];exact bT _
  ·rw[if_neg h2];obtain⟨W,Y,q,A⟩:=qq (r:=fu n o.1) JY;rw[Y];exact JV l _ (qa (sW A))
def Bh(x:Nd)(l:L Nd)(i:Nat)(s:L Ty):aQ (aX (x::l)) i s=match i with|0=>cy (cJ x) (s,false)|i+1=>aQ (aX l) i s:=by
 rw[zA];cases i<;>simp[aQ]
def wP:∀(l:L Nd)(i:Nat)(U:L Ty),DT U->Sm (aQ (aX l) i U)
 |[],i,U,h=>by simp only[aX,aQ,List.getD_nil];exact bT _
 |x::l,0,U,h=>by rw[Bh];exact JV _ _ h
 |x::l,i+1,U,h=>by rw[Bh];exact wP l i U h
def Nq{P:Int}{J:L Nd}{Y:L Ty}(h:bJ P J=some Y):Y.length<=2:=by
 have h1:=jk h;by_cases W:P=66
 ·subst W;obtain⟨x,y,N,p,S,xs,t,u,rfl,rfl,_⟩:=DU h rfl;simp
 ·have h2:(fG P).length<=2:=by
   unfold fG
   repeat' split
   all_goals simp_all
  unfold bJ at h;split at h
  ·cases h
  ·omega
def O8(P:Int)(J:L Nd)(Y s:L Ty)(V:pz s)(hf:bJ P J=some Y):Sm (mz P J (aX J) Y s):=by
 have I:=O4 hf;have B:=Nq hf;have p:=um (λt h=>(I t h).2) (s:=Y) 0;unfold mz
 refine bB (Sd _ _ _ V) (bB (bB (fM (dA bn (qa V))) (bT _)) (bB (O5 _ _ _ _ V I (wP J)) (bB (O6 _ _ _ _ V I B (wP J))
  (bB (JT _ _ _ _ _ V I B (wP J)) (bB (JU _ _ V) (bB (Se _ _ _ V I) (O7 _ _ _ V)))))))
def Sf(n:Nd)(s:L Ty)(V:pz s):Sm (fu n s):=by
 obtain⟨W,N,P,S,J⟩:=n;simp only[fu];refine bB (JV _ _ (qa V)) (bB (bT _) ?_);cases hf:bJ P J with
 |none=>exact bT _
 |some Y=>exact O8 P J Y s V hf
end Go.cM
namespace Go.Proofs
open Go.cM
attribute [local irreducible] AK ah aZ cx aW fq kH fO iV br cy fu aX iT gQ
def Bi(P:Int)(s:L Ty)(B:P=69\/P=70\/P=71\/P=72\/93<=P)(G:s.length<=9999999990):aj 128 [.int .i64 P,.sl 2 (au s)] (iu (bN P s)):=by
 by_cases S:P=93
 ·subst S;rcases s with _|⟨⟨T,us⟩,r⟩
  ·have Y:=ai ([]) [3];rw[show fN ([]) [3]=false from by(simp[bR,bS,aU])<;>assumption]at Y;rw[show bN 93 ([])=aM 5 from by simp[bN,bM,aD,aq,aae,aaf,aQ]];rw[aA cc];refine qn func128 call128 λβ hf=>?_;exact dw
  by_cases N:T=3
  ·subst N;have Y:=ai (.mk 3 us::r) [3];rw[show fN (.mk 3 us::r) [3]=true from by(simp[bR,bS,aU])<;>assumption]at Y;have D:=bA (r) [.mk 4 []];rw[aF]at D;rw[show bN 93 (.mk 3 us::r)=dX (.mk 4 []::r)from by simp[bN,bM,aD,aq,aae,aaf,aQ]];rw[aF];refine qn func128 call128 λβ hf=>?_;have sQ:=cK 4;exact dw
  ·have Y:=ai (.mk T us::r) [3];rw[show fN (.mk T us::r) [3]=false from by(simp[bR,bS,aU,N])<;>assumption]at Y;rw[show bN 93 (.mk T us::r)=aM 5 from by simp[bN,bM,aD,aq,aae,aaf,aQ,N]];rw[aA cc];refine qn func128 call128 λβ hf=>?_;exact dw
 by_cases Q:P=94
 ·subst Q;rcases s with _|⟨⟨T,us⟩,r⟩
  ·have Y:=ai ([]) [3];rw[show fN ([]) [3]=false from by(simp[bR,bS,aU])<;>assumption]at Y;rw[show bN 94 ([])=aM 5 from by simp[bN,bM,aD,aq,aae,aaf,aQ]];rw[aA cc];refine qn func128 call128 λβ hf=>?_;exact dw
  by_cases N:T=3
  ·subst N;have Y:=ai (.mk 3 us::r) [3];rw[show fN (.mk 3 us::r) [3]=true from by(simp[bR,bS,aU])<;>assumption]at Y;have D:=bA (r) [.mk 9 [.mk 4 []]];rw[aF]at D;rw[show bN 94 (.mk 3 us::r)=dX (.mk 9 [.mk 4 []]::r)from by simp[bN,bM,aD,aq,aae,aaf,aQ]];rw[aF];refine qn func128 call128 λβ hf=>?_;have Bf:=cK 4;have E4:=dz 9 [.mk 4 []];exact dw
  ·have Y:=ai (.mk T us::r) [3];rw[show fN (.mk T us::r) [3]=false from by(simp[bR,bS,aU,N])<;>assumption]at Y;rw[show bN 94 (.mk T us::r)=aM 5 from by simp[bN,bM,aD,aq,aae,aaf,aQ,N]];rw[aA cc];refine qn func128 call128 λβ hf=>?_;exact dw
 by_cases O:P=95
 ·subst O;rcases s with _|⟨⟨T,us⟩,r⟩
  ·have Y:=ai ([]) [4];rw[show fN ([]) [4]=false from by(simp[bR,bS,aU])<;>assumption]at Y;rw[show bN 95 ([])=aM 5 from by simp[bN,bM,aD,aq,aae,aaf,aQ]];rw[aA cc];refine qn func128 call128 λβ hf=>?_;exact dw
  by_cases N:T=4
  ·subst N;have Y:=ai (.mk 4 us::r) [4];rw[show fN (.mk 4 us::r) [4]=true from by(simp[bR,bS,aU])<;>assumption]at Y;have D:=bA (r) [.mk 3 []];rw[aF]at D;rw[show bN 95 (.mk 4 us::r)=dX (.mk 3 []::r)from by simp[bN,bM,aD,aq,aae,aaf,aQ]];rw[aF];refine qn func128 call128 λβ hf=>?_;have G5:=cK 3;exact dw
  ·have Y:=ai (.mk T us::r) [4];rw[show fN (.mk T us::r) [4]=false from by(simp[bR,bS,aU,N])<;>assumption]at Y;rw[show bN 95 (.mk T us::r)=aM 5 from by simp[bN,bM,aD,aq,aae,aaf,aQ,N]];rw[aA cc];refine qn func128 call128 λβ hf=>?_;exact dw
 by_cases M:93<=P
 ·rw[show bN P s=aM 5 from by unfold bN;rw[if_neg S,if_neg Q,if_neg O,if_pos M]];rw[aA cc];have C:(P==93)=false:=by simpa using S
  have J:(P==94)=false:=by simpa using Q
  have e3:(P==95)=false:=by simpa using O
  have e4:decide (P>=93)=true:=aaw M;refine qn func128 call128 λβ hf=>?_;exact dw
 have V:P=69\/P=70\/P=71\/P=72:=by omega
 clear B S Q O M;rcases s with _|⟨⟨T,us⟩,_|⟨⟨U,vs⟩,q⟩⟩
 ·rcases V with rfl|rfl|rfl|rfl
  ·rw[show bN 69 ([])=aM 5 from by simp[bN,bM,aD,aq,aae,aaf,aQ]];rw[aA cc];refine qn func128 call128 λβ hf=>?_;exact dw
  ·rw[show bN 70 ([])=aM 5 from by simp[bN,bM,aD,aq,aae,aaf,aQ]];rw[aA cc];refine qn func128 call128 λβ hf=>?_;exact dw
  ·rw[show bN 71 ([])=aM 5 from by simp[bN,bM,aD,aq,aae,aaf,aQ]];rw[aA cc];refine qn func128 call128 λβ hf=>?_;exact dw
  ·rw[show bN 72 ([])=aM 5 from by simp[bN,bM,aD,aq,aae,aaf,aQ]];rw[aA cc];refine qn func128 call128 λβ hf=>?_;exact dw
 ·rcases V with rfl|rfl|rfl|rfl
  ·rw[show bN 69 ([.mk T us])=aM 5 from by simp[bN,bM,aD,aq,aae,aaf,aQ]];rw[aA cc];refine qn func128 call128 λβ hf=>?_;exact dw
  ·rw[show bN 70 ([.mk T us])=aM 5 from by simp[bN,bM,aD,aq,aae,aaf,aQ]];rw[aA cc];refine qn func128 call128 λβ hf=>?_;exact dw
  ·rw[show bN 71 ([.mk T us])=aM 5 from by simp[bN,bM,aD,aq,aae,aaf,aQ]];rw[aA cc];refine qn func128 call128 λβ hf=>?_;exact dw
  ·rw[show bN 72 ([.mk T us])=aM 5 from by simp[bN,bM,aD,aq,aae,aaf,aQ]];rw[aA cc];refine qn func128 call128 λβ hf=>?_;exact dw
 have E:=JQ P T U V
 have W:∀t,mg P T U=t->bN P (.mk T us :: .mk U vs::q)=(if t=0 then aM 5 else if P=70/\t=5 then dX (.mk 9 [.mk 5 []]::q)else if P≠72 then dX (.mk t []::q)
   else dX (.mk 9 [.mk 11 [.mk (if T=5/\U=5 then 4 else t) [],.mk (if T=5 then 5 else 4) []]]::q)):=by
  rintro t rfl
  conv=>lhs;unfold bN
  rw[if_neg bn,if_neg bn,if_neg bn,if_neg bn];rfl
 generalize mg P T U=t at E W;rw[W t rfl];clear W;simp only[aac]at G;by_cases I:t=0
 ·subst I;rw[if_pos Z,aA cc];rcases V with rfl|rfl|rfl|rfl
  all_goals
   refine qn func128 call128 λβ hf=>?_;exact dw
 rw[if_neg I];have C:(t==0)=false:=by simpa using I
 rcases V with rfl|rfl|rfl|rfl
 ·rw[if_neg bn,if_pos cc];have D:=bA (q) [.mk t []];rw[aF]at D;rw[aF];refine qn func128 call128 λβ hf=>?_;have G6:=cK t;exact dw
 ·by_cases K:t=5
  ·subst K;rw[if_pos ⟨Z,Z⟩];have D:=bA (q) [.mk 9 [.mk 5 []]];rw[aF]at D;rw[aF];refine qn func128 call128 λβ hf=>?_;have JW:=cK 5;have O9:=dz 9 [.mk 5 []];exact dw
  ·have J:(t==5)=false:=by simpa using K
   rw[if_neg (λh=>K h.2),if_pos cc];have D:=bA (q) [.mk t []];rw[aF]at D;rw[aF];refine qn func128 call128 λβ hf=>?_;have Sg:=cK t;exact dw
 ·rw[if_neg bn,if_pos cc];have D:=bA (q) [.mk t []];rw[aF]at D;rw[aF];refine qn func128 call128 λβ hf=>?_;have Wh:=cK t;exact dw
 ·rw[if_neg bn,if_neg cc];by_cases N:T=5
  ·subst N;by_cases H:U=5
   ·subst H;rw[if_pos ⟨Z,Z⟩,if_pos rfl];have D:=bA (q) [.mk 9 [.mk 11 [.mk 4 [],.mk 5 []]]];rw[aF]at D;rw[aF];refine qn func128 call128 λβ hf=>?_;have TM:=cK 4;have TN:=cK 5;have TO:=dz 11 [.mk 4 [],.mk 5 []];have Wi:=dz 9 [.mk 11 [.mk 4 [],.mk 5 []]];exact dw
   ·have J:(U==5)=false:=by simpa using H
    rw[if_neg (λh=>H h.2),if_pos rfl];have D:=bA (q) [.mk 9 [.mk 11 [.mk t [],.mk 5 []]]];rw[aF]at D;rw[aF];refine qn func128 call128 λβ hf=>?_;have Wj:=cK 4;have A:=cK 5;have u:=cK t;have p:=dz 11 [.mk t [],.mk 5 []];have aaq:=dz 9 [.mk 11 [.mk t [],.mk 5 []]];exact dw
  ·have J:(T==5)=false:=by simpa using N
   rw[if_neg (λh=>N h.1),if_neg N];have D:=bA (q) [.mk 9 [.mk 11 [.mk t [],.mk 4 []]]];rw[aF]at D;rw[aF];refine qn func128 call128 λβ hf=>?_;have aar:=cK 4;have aas:=cK t;have aat:=dz 11 [.mk t [],.mk 4 []];have aau:=dz 9 [.mk 11 [.mk t [],.mk 4 []]];exact dw
end Go.Proofs
namespace Go.Proofs
open Go.cM
attribute [local irreducible] AK ah aZ cx aW fq kH fO iV br cy fu aX iT gQ
def G7(P:Int)(E:L Nd)(G s:L Ty)(B:73<=P/\P<=83)(hf:bJ P E=some G)(S:pz s)(K:s.length<=9999999990):aj 129 [.int .i64 P,.sl 2 (au G),.sl 2 (au s)] (iu (b8 P G s)):=by
 have O:P=73\/P=74\/P=75\/P=76\/P=77\/P=78\/P=79\/P=80\/P=81\/P=82\/P=83:=by omega
 clear B;rcases O with rfl|rfl|rfl|rfl|rfl|rfl|rfl|rfl|rfl|rfl|rfl
 ·obtain⟨rfl,rfl⟩:=cW hf rfl;clear hf;rcases s with _|⟨⟨T,us⟩,_|⟨⟨U,vs⟩,q⟩⟩
  ·rw[show b8 73 ([]) ([])=aM 5 from by simp[b8,bM,aD,aq,aae,aaf,aQ]];rw[aA cc];refine qn func129 call129 λβ hf=>?_;exact dw
  ·rw[show b8 73 ([]) ([.mk T us])=aM 5 from by simp[b8,bM,aD,aq,aae,aaf,aQ]];rw[aA cc];refine qn func129 call129 λβ hf=>?_;exact dw
  have h1:=gD (.mk T us) (.mk U vs) Ev;have h2:=jU (.mk T us) Ev;cases g1:cP (.mk T us) (.mk U vs)
  ·rw[g1]at h1;rw[show b8 73 ([]) (.mk T us :: .mk U vs::q)=aM 5 from by simp[b8,bM,aD,aq,aae,aaf,aQ,g1]];rw[aA cc];refine qn func129 call129 λβ hf=>?_;exact dw
  cases H:fq (.mk T us)
  ·rw[g1]at h1;rw[H]at h2;rw[show b8 73 ([]) (.mk T us :: .mk U vs::q)=aM 5 from by simp[b8,bM,aD,aq,aae,aaf,aQ,g1,H]];rw[aA cc];refine qn func129 call129 λβ hf=>?_;exact dw
  ·rw[g1]at h1;rw[H]at h2;have M:=vH (au (.mk T us :: .mk U vs::q)) 1 Ao;have Y:=bA (q) [.mk 3 []];rw[aF]at Y;rw[show b8 73 ([]) (.mk T us :: .mk U vs::q)=dX (.mk 3 []::q)from by simp[b8,bM,aD,aq,aae,aaf,aQ,g1,H]];rw[aF];refine qn func129 call129 λβ hf=>?_;have C:=cK 3;exact dw
 ·obtain⟨rfl,rfl⟩:=cW hf rfl;clear hf;rcases s with _|⟨⟨T,us⟩,r⟩
  ·have D:=ai ([]) [3];rw[show fN ([]) [3]=false from by(simp[bR,bS,aU])<;>assumption]at D;rw[show b8 74 ([]) ([])=aM 5 from by simp[b8,bM,aD,aq,aae,aaf,aQ]];rw[aA cc];refine qn func129 call129 λβ hf=>?_;exact dw
  by_cases N:T=3
  ·subst N;have D:=ai (.mk 3 us::r) [3];rw[show fN (.mk 3 us::r) [3]=true from by(simp[bR,bS,aU])<;>assumption]at D;have Y:=bA (r) [.mk 2 []];rw[aF]at Y;rw[show b8 74 ([]) (.mk 3 us::r)=dX (.mk 2 []::r)from by simp[b8,bM,aD,aq,aae,aaf,aQ]];rw[aF];refine qn func129 call129 λβ hf=>?_;have A:=cK 2;exact dw
  ·have D:=ai (.mk T us::r) [3];rw[show fN (.mk T us::r) [3]=false from by(simp[bR,bS,aU,N])<;>assumption]at D;rw[show b8 74 ([]) (.mk T us::r)=aM 5 from by simp[b8,bM,aD,aq,aae,aaf,aQ,N]];rw[aA cc];refine qn func129 call129 λβ hf=>?_;exact dw
 ·obtain⟨rfl,rfl⟩:=cW hf rfl;clear hf;rcases s with _|⟨⟨T,us⟩,r⟩
  ·have D:=ai ([]) [3];rw[show fN ([]) [3]=false from by(simp[bR,bS,aU])<;>assumption]at D;rw[show b8 75 ([]) ([])=aM 5 from by simp[b8,bM,aD,aq,aae,aaf,aQ]];rw[aA cc];refine qn func129 call129 λβ hf=>?_;exact dw
  by_cases N:T=3
  ·subst N;have D:=ai (.mk 3 us::r) [3];rw[show fN (.mk 3 us::r) [3]=true from by(simp[bR,bS,aU])<;>assumption]at D;have Y:=bA (r) [.mk 2 []];rw[aF]at Y;rw[show b8 75 ([]) (.mk 3 us::r)=dX (.mk 2 []::r)from by simp[b8,bM,aD,aq,aae,aaf,aQ]];rw[aF];refine qn func129 call129 λβ hf=>?_;have u:=cK 2;exact dw
  ·have D:=ai (.mk T us::r) [3];rw[show fN (.mk T us::r) [3]=false from by(simp[bR,bS,aU,N])<;>assumption]at D;rw[show b8 75 ([]) (.mk T us::r)=aM 5 from by simp[b8,bM,aD,aq,aae,aaf,aQ,N]];rw[aA cc];refine qn func129 call129 λβ hf=>?_;exact dw
 ·obtain⟨rfl,rfl⟩:=cW hf rfl;clear hf;rcases s with _|⟨⟨T,us⟩,r⟩
  ·have D:=ai ([]) [3];rw[show fN ([]) [3]=false from by(simp[bR,bS,aU])<;>assumption]at D;rw[show b8 76 ([]) ([])=aM 5 from by simp[b8,bM,aD,aq,aae,aaf,aQ]];rw[aA cc];refine qn func129 call129 λβ hf=>?_;exact dw
  by_cases N:T=3
  ·subst N;have D:=ai (.mk 3 us::r) [3];rw[show fN (.mk 3 us::r) [3]=true from by(simp[bR,bS,aU])<;>assumption]at D;have Y:=bA (r) [.mk 2 []];rw[aF]at Y;rw[show b8 76 ([]) (.mk 3 us::r)=dX (.mk 2 []::r)from by simp[b8,bM,aD,aq,aae,aaf,aQ]];rw[aF];refine qn func129 call129 λβ hf=>?_;have p:=cK 2;exact dw
  ·have D:=ai (.mk T us::r) [3];rw[show fN (.mk T us::r) [3]=false from by(simp[bR,bS,aU,N])<;>assumption]at D;rw[show b8 76 ([]) (.mk T us::r)=aM 5 from by simp[b8,bM,aD,aq,aae,aaf,aQ,N]];rw[aA cc];refine qn func129 call129 λβ hf=>?_;exact dw
 ·obtain⟨rfl,rfl⟩:=cW hf rfl;clear hf;rcases s with _|⟨⟨T,us⟩,r⟩
  ·have D:=ai ([]) [2];rw[show fN ([]) [2]=false from by(simp[bR,bS,aU])<;>assumption]at D;rw[show b8 77 ([]) ([])=aM 5 from by simp[b8,bM,aD,aq,aae,aaf,aQ]];rw[aA cc];refine qn func129 call129 λβ hf=>?_;exact dw
  by_cases N:T=2
  ·subst N;have D:=ai (.mk 2 us::r) [2];rw[show fN (.mk 2 us::r) [2]=true from by(simp[bR,bS,aU])<;>assumption]at D;have Y:=iM (.mk 2 us::r);rw[aF]at Y;rw[show b8 77 ([]) (.mk 2 us::r)=dX (.mk 2 us::r)from by simp[b8,bM,aD,aq,aae,aaf,aQ]];rw[aF];refine qn func129 call129 λβ hf=>?_;exact dw
  ·have D:=ai (.mk T us::r) [2];rw[show fN (.mk T us::r) [2]=false from by(simp[bR,bS,aU,N])<;>assumption]at D;rw[show b8 77 ([]) (.mk T us::r)=aM 5 from by simp[b8,bM,aD,aq,aae,aaf,aQ,N]];rw[aA cc];refine qn func129 call129 λβ hf=>?_;exact dw
 ·obtain⟨rfl,rfl⟩:=cW hf rfl;clear hf;rcases s with _|⟨⟨T,us⟩,_|⟨⟨U,vs⟩,q⟩⟩
  ·have D:=ai ([]) [2,2];rw[show fN ([]) [2,2]=false from by(simp[bR,bS,aU])<;>assumption]at D;rw[show b8 78 ([]) ([])=aM 5 from by simp[b8,bM,aD,aq,aae,aaf,aQ]];rw[aA cc];refine qn func129 call129 λβ hf=>?_;exact dw
  ·have D:=ai ([.mk T us]) [2,2];rw[show fN ([.mk T us]) [2,2]=false from by(simp[bR,bS,aU])<;>assumption]at D;rw[show b8 78 ([]) ([.mk T us])=aM 5 from by simp[b8,bM,aD,aq,aae,aaf,aQ]];rw[aA cc];refine qn func129 call129 λβ hf=>?_;exact dw
  by_cases N:T=2/\U=2
  ·obtain⟨rfl,rfl⟩:=N;have D:=ai (.mk 2 us :: .mk 2 vs::q) [2,2];rw[show fN (.mk 2 us :: .mk 2 vs::q) [2,2]=true from by(simp[bR,bS,aU])<;>assumption]at D;have Y:=iM (.mk 2 vs::q);rw[aF]at Y;rw[show b8 78 ([]) (.mk 2 us :: .mk 2 vs::q)=dX (.mk 2 vs::q)from by simp[b8,bM,aD,aq,aae,aaf,aQ]];rw[aF];refine qn func129 call129 λβ hf=>?_;exact dw
  ·have W:T=2->¬U=2:=λa b=>N ⟨a,b⟩;have D:=ai (.mk T us :: .mk U vs::q) [2,2];rw[show fN (.mk T us :: .mk U vs::q) [2,2]=false from by(simp[bR,bS,aU,W])<;>assumption]at D;rw[show b8 78 ([]) (.mk T us :: .mk U vs::q)=aM 5 from by simp[b8,bM,aD,aq,aae,aaf,aQ,N]];rw[aA cc];refine qn func129 call129 λβ hf=>?_;exact dw
 ·obtain⟨rfl,rfl⟩:=cW hf rfl;clear hf;rcases s with _|⟨⟨T,us⟩,_|⟨⟨U,vs⟩,q⟩⟩
  ·have D:=ai ([]) [2,2];rw[show fN ([]) [2,2]=false from by(simp[bR,bS,aU])<;>assumption]at D;rw[show b8 79 ([]) ([])=aM 5 from by simp[b8,bM,aD,aq,aae,aaf,aQ]];rw[aA cc];refine qn func129 call129 λβ hf=>?_;exact dw
  ·have D:=ai ([.mk T us]) [2,2];rw[show fN ([.mk T us]) [2,2]=false from by(simp[bR,bS,aU])<;>assumption]at D;rw[show b8 79 ([]) ([.mk T us])=aM 5 from by simp[b8,bM,aD,aq,aae,aaf,aQ]];rw[aA cc];refine qn func129 call129 λβ hf=>?_;exact dw
  by_cases N:T=2/\U=2
  ·obtain⟨rfl,rfl⟩:=N;have D:=ai (.mk 2 us :: .mk 2 vs::q) [2,2];rw[show fN (.mk 2 us :: .mk 2 vs::q) [2,2]=true from by(simp[bR,bS,aU])<;>assumption]at D;have Y:=iM (.mk 2 vs::q);rw[aF]at Y;rw[show b8 79 ([]) (.mk 2 us :: .mk 2 vs::q)=dX (.mk 2 vs::q)from by simp[b8,bM,aD,aq,aae,aaf,aQ]];rw[aF];refine qn func129 call129 λβ hf=>?_;exact dw
  ·have W:T=2->¬U=2:=λa b=>N ⟨a,b⟩;have D:=ai (.mk T us :: .mk U vs::q) [2,2];rw[show fN (.mk T us :: .mk U vs::q) [2,2]=false from by(simp[bR,bS,aU,W])<;>assumption]at D;rw[show b8 79 ([]) (.mk T us :: .mk U vs::q)=aM 5 from by simp[b8,bM,aD,aq,aae,aaf,aQ,N]];rw[aA cc];refine qn func129 call129 λβ hf=>?_;exact dw
 ·obtain⟨rfl,rfl⟩:=cW hf rfl;clear hf;rcases s with _|⟨⟨T,us⟩,_|⟨⟨U,vs⟩,q⟩⟩
  ·have D:=ai ([]) [6,6];rw[show fN ([]) [6,6]=false from by(simp[bR,bS,aU])<;>assumption]at D;rw[show b8 80 ([]) ([])=aM 5 from by simp[b8,bM,aD,aq,aae,aaf,aQ]];rw[aA cc];refine qn func129 call129 λβ hf=>?_;exact dw
  ·have D:=ai ([.mk T us]) [6,6];rw[show fN ([.mk T us]) [6,6]=false from by(simp[bR,bS,aU])<;>assumption]at D;rw[show b8 80 ([]) ([.mk T us])=aM 5 from by simp[b8,bM,aD,aq,aae,aaf,aQ]];rw[aA cc];refine qn func129 call129 λβ hf=>?_;exact dw
  by_cases N:T=6/\U=6
  ·obtain⟨rfl,rfl⟩:=N;have D:=ai (.mk 6 us :: .mk 6 vs::q) [6,6];rw[show fN (.mk 6 us :: .mk 6 vs::q) [6,6]=true from by(simp[bR,bS,aU])<;>assumption]at D;have Y:=iM (.mk 6 vs::q);rw[aF]at Y;rw[show b8 80 ([]) (.mk 6 us :: .mk 6 vs::q)=dX (.mk 6 vs::q)from by simp[b8,bM,aD,aq,aae,aaf,aQ]];rw[aF];refine qn func129 call129 λβ hf=>?_;exact dw
  ·have W:T=6->¬U=6:=λa b=>N ⟨a,b⟩;have D:=ai (.mk T us :: .mk U vs::q) [6,6];rw[show fN (.mk T us :: .mk U vs::q) [6,6]=false from by(simp[bR,bS,aU,W])<;>assumption]at D;rw[show b8 80 ([]) (.mk T us :: .mk U vs::q)=aM 5 from by simp[b8,bM,aD,aq,aae,aaf,aQ,N]];rw[aA cc];refine qn func129 call129 λβ hf=>?_;exact dw
 ·obtain⟨rfl,rfl⟩:=cW hf rfl;clear hf;rcases s with _|⟨⟨T,us⟩,r⟩
  ·rw[show b8 81 ([]) ([])=aM 5 from by simp[b8,bM,aD,aq,aae,aaf,aQ]];rw[aA cc];refine qn func129 call129 λβ hf=>?_;exact dw
  have h2:=lF (.mk T us) Ev;have Q:=vH (au (.mk T us::r)) 0 Ao;cases H:fO (.mk T us)
  ·rw[H]at h2;rw[show b8 81 ([]) (.mk T us::r)=aM 5 from by simp[b8,bM,aD,aq,aae,aaf,aQ,H]];rw[aA cc];refine qn func129 call129 λβ hf=>?_;exact dw
  ·rw[H]at h2;have Y:=bA (r) [.mk 6 []];rw[aF]at Y;rw[show b8 81 ([]) (.mk T us::r)=dX (.mk 6 []::r)from by simp[b8,bM,aD,aq,aae,aaf,aQ,H]];rw[aF];refine qn func129 call129 λβ hf=>?_;have G6:=cK 6;exact dw
 ·obtain⟨x,t,rfl,rfl,I⟩:=uo hf rfl;clear hf;have TP:=I.2;obtain⟨V,J⟩:=t;have h2:=lF (.mk V J) bn;rcases s with _|⟨⟨T,us⟩,r⟩
  ·have D:=ai ([]) [6];rw[show fN ([]) [6]=false from by(simp[bR,bS,aU])<;>assumption]at D;rw[show b8 82 ([.mk V J]) ([])=aM 5 from by simp[b8,bM,aD,aq,aae,aaf,aQ]];rw[aA cc];refine qn func129 call129 λβ hf=>?_;exact dw
  by_cases N:T=6
  ·subst N;have D:=ai (.mk 6 us::r) [6];rw[show fN (.mk 6 us::r) [6]=true from by(simp[bR,bS,aU])<;>assumption]at D;cases H:fO (.mk V J)
   ·rw[H]at h2;rw[show b8 82 ([.mk V J]) (.mk 6 us::r)=aM 5 from by simp[b8,bM,aD,aq,aae,aaf,aQ,H]];rw[aA cc];refine qn func129 call129 λβ hf=>?_;exact dw
   ·rw[H]at h2;have Y:=bA (r) [.mk 9 [.mk V J]];rw[aF]at Y;rw[show b8 82 ([.mk V J]) (.mk 6 us::r)=dX (.mk 9 [.mk V J]::r)from by simp[b8,bM,aD,aq,aae,aaf,aQ,H]];rw[aF];refine qn func129 call129 λβ hf=>?_;have JW:=dz 9 [.mk V J];exact dw
  ·have D:=ai (.mk T us::r) [6];rw[show fN (.mk T us::r) [6]=false from by(simp[bR,bS,aU,N])<;>assumption]at D;rw[show b8 82 ([.mk V J]) (.mk T us::r)=aM 5 from by simp[b8,bM,aD,aq,aae,aaf,aQ,N]];rw[aA cc];refine qn func129 call129 λβ hf=>?_;exact dw
 ·obtain⟨rfl,rfl⟩:=cW hf rfl;clear hf;rcases s with _|⟨⟨T,us⟩,r⟩
  ·rw[show b8 83 ([]) ([])=aM 5 from by simp[b8,bM,aD,aq,aae,aaf,aQ]];rw[aA cc];refine qn func129 call129 λβ hf=>?_;exact dw
  have h2:=lF (.mk T us) Ev;have Q:=vH (au (.mk T us::r)) 0 Ao;cases H:fO (.mk T us)
  ·rw[H]at h2;rw[show b8 83 ([]) (.mk T us::r)=aM 5 from by simp[b8,bM,aD,aq,aae,aaf,aQ,H]];rw[aA cc];refine qn func129 call129 λβ hf=>?_;exact dw
  ·rw[H]at h2;rw[show b8 83 ([]) (.mk T us::r)=(([],true),0)from by simp[b8,bM,aD,aq,aae,aaf,aQ,H]];rw[GZ];refine qn func129 call129 λβ hf=>?_;exact dw
end Go.Proofs
