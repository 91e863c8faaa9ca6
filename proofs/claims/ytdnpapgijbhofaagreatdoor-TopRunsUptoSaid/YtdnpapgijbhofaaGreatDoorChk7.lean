/- The types that a step leads to are small. -/
import Derived.Test.YtdnpapgijbhofaaGreatDoorKind6
import Derived.Test.YtdnpapgijbhofaaGreatDoorChk3
open Go.Proofs.Tryz
set_option linter.defProp false
set_option maxHeartbeats 0
set_option linter.unusedVariables false
set_option linter.unusedSimpArgs false
set_option maxHeartbeats 0
set_option maxRecDepth 100000
namespace Go.cw
def Sm(r:CR):Prop:=∀t∈r.1.1,bf t<=2000
def Jb(s:L Ty):Prop:=∀t∈s,bf t<=2000
def gW{s:L Ty}(h:Jb s):Sm (gy s):=h
def bS(e:Int):Sm (bw e):=λt C=>by simp[bw]at C
def bB{p:Prop}[Decidable p]{a b:CR}(h1:Sm a)(h2:Sm b):Sm (if p then a else b):=by grind
def eg{t:Ty}{s:L Ty}(h1:bf t<=2000)(h2:Jb s):Jb (t::s):=λx D=>by
 rcases List.mem_cons.1 D with rfl|D
 omega;exact h2 x D
def tP{s:L Ty}(h:sL s):Jb s:=λt C=>by have:=(h t C).2;omega
def CE{a b:L Ty}(h1:Jb a)(h2:Jb b):Jb (a++b):=λx D=>by
 rcases List.mem_append.1 D with D|D
 exact h1 x D;exact h2 x D
def xz{a b:CR}(T:Sm a)(U:Sm b):Sm (cZ a b):=by refine bB (bS _) (bB (bS _) (bB U (bB T (bS _))))
def kN(a:Ty)(i:Nat):bf (aU a i)<=bf a:=by
 obtain⟨T,l⟩:=a;show bf (l.getD i lJ)<=_;rw[agl];cases h:l[i]? with
 |none=>simp only[Option.getD_none,lJ,bf,bp];omega
 |some x =>
  have:=cI (abz h);simp only[ahY,bf];omega
def DJ(a:Ty):bp (aV a)+1=bf a:=by obtain⟨T,l⟩:=a;rfl
def yU{s:L Ty}(h:∀t∈s,bf t<=300)(i:Nat):bf (s.getD i lJ)<=300:=by
 rw[agl];cases J:s[i]? with
 |none=>simp only[Option.getD_none,lJ,bf,bp];omega
 |some x=>exact h x (abz J)
def Bs:∀(K:L UInt8)(l:L Nd)(acc r:L Ty),sL acc->ku K l acc=some r->sL r
 |[],l,acc,r,h,e=>by simp only[ku]at e;simp at e;subst e;exact h
 |w::K,[],acc,r,h,e=>by simp only[ku]at e;simp at e;subst e;exact h
 |w::K,.mk kind N P S xs::l,acc,r,h,e=>by
  simp only[ku]at e;split at e;split at e;exact Bs K l acc r h e;cases e;split at e;split at e;exact Bs K l acc r h e;cases e;split at e
  ·split at e
   ·rename_i I Y;refine Bs K l _ r (λt C=>?_) e;rcases List.mem_append.1 C with C|C
    exact h t C;simp at C;subst C;exact cF (jG Y)
   cases e
  exact Bs K l acc r h e
def Wn{P:Int}{M:L Nd}{V:L Ty}(h:bP P M=some V):sL V:=by unfold bP at h;split at h;cases h;exact Bs _ _ _ _ SS h
def lu{P:Int}{M:L Nd}{V:L Ty}(h:bP P M=some V):V.length<=M.length:=by
 unfold bP at h;split at h;cases h;have:∀(K:L UInt8)(l:L Nd)(acc r:L Ty),ku K l acc=some r->r.length<=acc.length+l.length:=by
  intro K
  induction K with
  |nil=>intro l acc r e;simp only[ku]at e;simp at e;subst e;omega
  |cons w K Y =>
   intro l acc r e;cases l with
   |nil=>simp only[ku]at e;simp at e;subst e;omega
   |cons x l =>
    obtain⟨k,n,p,s,xs⟩:=x;simp only[ku]at e;grind
 grind
def acJ{l:L Ty}(h:bp l<=2000):Jb l:=λt C=>by have:=cI C;omega
def ZQ(P:Int)(M:L Nd)(s:L Ty)(B:sL s):Sm (iD P M s):=by
 have S:=tP B;have G:=λi=>yU (λt C=>(B t C).2) (s:=s) i;refine bB ?_ (bB ?_ (bB ?_ (bB ?_ (bB ?_ (bS _)))))
 ·rcases s with _|⟨a,r⟩
  exact bS _;exact gW (λt C=>S t (afH _ C))
 ·rcases s with _|⟨a,_|⟨b,r⟩⟩
  exact bS _;exact bS _;exact gW (eg (S b cc) (eg (S a cc) (λt C=>S t (by simp[C]))))
 exact bB (gW (eg (by have:=G (MS (M.getD 0 vw)-1).toNat;omega) S)) (bS _);refine bB (gW (eg (by have:=G (MS (M.getD 0 vw)).toNat;omega) (CE ?_ ?_))) (bS _);exact λt C=>S t (ahe C);exact λt C=>S t (afW C);rcases s with _|⟨a,r⟩
 exact bS _;refine bB (gW (CE ?_ (eg (S a cc) ?_))) (bS _);exact λt C=>S t (afH _ (ahe C));exact λt C=>S t (afH _ (afW C))
def Wo(P:Int)(codes:L (L Ty->CR))(V s:L Ty)(C:sL s)(W:sL V)(Y:∀i O,Jb O->Sm (dM codes i O)):Sm (dU P codes V s):=by
 have S:=tP C;have G:=λi=>yU (λt h=>(W t h).2) (s:=V) i;have g0:=G 0;refine bB (gW (eg mc S)) (bB (gW (eg mc S)) ?_);rcases s with _|⟨a,r⟩
 exact bS _;have T:=(C a cc).2;have B:Jb r:=λt h=>S t ta;have J:=kN a 0;have U:=kN a 1;have Q:=DJ a;refine bB (gW (eg mc B)) (bB (gW (eg mc B)) (bB (gW (eg mc B)) (bB ?_ (bB ?_ (bB ?_ (bB ?_ (bB ?_ (bB ?_ (bB ?_ (bB ?_ (bS _)))))))))))
 ·rcases r with _|⟨b,q⟩
  exact bS _;have N:=(C b cc).2;exact gW (eg mc (λt h=>B t ta))
 exact bB (gW (CE (acJ ai) B)) (bS _);exact bB (gW (eg ai B)) (bS _);exact bB (gW (eg ai B)) (bS _)
 ·rcases r with _|⟨b,q⟩
  exact bS _;exact bB (gW B) (bS _)
 exact bB (xz (Y _ _ (eg ai B)) (Y _ _ (eg ai B))) (bS _);exact bB (xz (Y _ _ B) (Y _ _ (eg ai B))) (bS _);exact bB (xz (Y _ _ (eg ai (eg ai B))) (Y _ _ B)) (bS _)
def Wp(P:Int)(codes:L (L Ty->CR))(V s:L Ty)(B:sL s)(Y:sL V)(M:V.length<=2)(I:∀i O,Jb O->Sm (dM codes i O)):Sm (iW P codes V s):=by
 have C:=tP B;have W:bp V<=600:=by
  rcases V with _|⟨a,_|⟨b,_|⟨c,l⟩⟩⟩
  simp[bp];have:=(Y a cc).2;simp only[bp];omega;have h1:=(Y a cc).2;have h2:=(Y b cc).2;simp only[bp];omega;grind
 refine bB (bB (gW (eg acV C)) (bS _)) (bB ?_ (bB ?_ (bB ?_ (bB ?_ (bS _)))))
 ·rcases s with _|⟨a,r⟩
  exact bS _;exact bB (gW (eg acA (λt h=>C t ta))) (bS _)
 ·rcases s with _|⟨a,r⟩
  exact bS _;have H:Jb r:=λt h=>C t ta;have T:=(B a cc).2;have J:=kN a 0;have U:=DJ a;refine bB (xz (I _ _ (eg ?_ H)) (gW H)) (bS _);split;simp only[bf];omega;omega
 ·rcases s with _|⟨a,_|⟨b,q⟩⟩
  exact bS _;exact bS _;have S:=(B b cc).2;have Q:=kN b 1;exact bB (gW (eg mc (λt h=>C t ta))) (bS _)
 rcases s with _|⟨a,_|⟨b,_|⟨c,q⟩⟩⟩
 exact bS _;exact bS _;exact bS _;exact bB (gW (λt h=>C t (by simp at h ⊢;rcases h with h|h<;>simp[h]))) (bS _)
def Qm(P:Int)(M:L Nd)(codes:L (L Ty->CR))(V s:L Ty)(W:sL s)(Y:sL V)(T:V.length<=2)(I:∀i O,Jb O->Sm (dM codes i O)):Sm (eP P M codes V s):=by
 have C:=tP W;have U:bp V<=600:=by
  rcases V with _|⟨a,_|⟨b,_|⟨c,l⟩⟩⟩
  simp[bp];have:=(Y a cc).2;simp only[bp];omega;have h1:=(Y a cc).2;have h2:=(Y b cc).2;simp only[bp];omega;grind
 refine bB (bB (bS _) (bB (bS _) (gW (eg acV C)))) (bB ?_ (bB ?_ (bB ?_ (bB ?_ (bS _)))))
 ·rcases s with _|⟨a,r⟩
  exact bS _;have B:Jb r:=λt h=>C t ta;exact bB (xz (I _ _ B) (I _ _ B)) (bS _)
 ·rcases s with _|⟨a,r⟩
  exact bS _;have B:Jb r:=λt h=>C t ta;exact bB (bB (bS _) (gW B)) (bS _)
 ·rcases s with _|⟨a,_|⟨b,q⟩⟩
  exact bS _;exact bS _;have S:=(W b cc).2;have Q:=kN b 1;exact bB (gW (eg ai (λt h=>C t ta))) (bS _)
 rcases s with _|⟨a,r⟩
 exact bS _;have B:Jb r:=λt h=>C t ta;exact bB (bS _) (bB (bS _) (gW (eg (C a cc) (I 0 r B))))
def Qn(P:Int)(s:L Ty)(C:sL s):Sm (eZ P s):=by
 have S:=tP C;unfold eZ;rcases s with _|⟨a,_|⟨b,q⟩⟩
 all_goals
  repeat' (first|refine bB ?_ ?_|exact bS _|refine gW (eg acA ?_)|exact λt h=>S t ta|(intro t h;simp at h))
def ZR(P:Int)(V s:L Ty)(Y:sL s)(W:sL V):Sm (j9 P V s):=by
 have C:=tP Y;have g0:=yU (λt h=>(W t h).2) (s:=V) 0;unfold j9;rcases s with _|⟨a,r⟩
 exact bS _;have B:Jb r:=λt h=>C t ta
 refine bB ?_ (bB (bB (gW (eg acA B)) (bS _)) (bB (bB (gW C) (bS _)) (bB ?_ (bB ?_ (bB (bB (gW (eg acA B)) (bS _))
  (bB (bB (gW (eg mc B)) (bS _)) (bB (bB (λt h=>by simp at h) (bS _)) (bS _))))))))
 ·rcases r with _|⟨b,q⟩
  exact bS _;exact bB (gW (eg acA (λt h=>B t ta))) (bS _)
 ·rcases r with _|⟨b,q⟩
  exact bS _;exact bB (gW B) (bS _)
 rcases r with _|⟨b,q⟩
 exact bS _;exact bB (gW B) (bS _)
def Wq(P:Int)(V s:L Ty)(Y:sL s):Sm (iI P V s):=by
 have C:=tP Y;refine bB (gW (eg acA C)) (bB (gW (eg acA C)) ?_);rcases s with _|⟨a,r⟩
 exact bS _;have T:=(Y a cc).2;have J:=kN a 0;have B:Jb r:=λt h=>C t ta;refine bB ?_ (bB ?_ (bB ?_ (bB ?_ (bB ?_ (bS _)))))
 ·rcases r with _|⟨b,q⟩
  exact bS _;exact aex
 exact bB (gW (eg mc C)) (bS _)
 ·rcases r with _|⟨b,q⟩
  exact bS _;exact aex
 exact bB (gW (eg mc B)) (bS _);rcases r with _|⟨b,_|⟨c,q⟩⟩
 exact bS _;exact bS _;exact aex
def Qo:∀(l:L Nd)(o:L Ty×Bool),Jb o.1->Sm (cz l o)
 |[],o,h=>by simp only[cz];exact h
 |n::l,o,h=>by refine bB (bS _) ?_;by_cases h2:(mR (fZ n o.1)).2≠0;rw[if_pos h2];exact bS _;rw[if_neg h2];obtain⟨W,a2,A,P⟩:=uj (r:=fZ n o.1) VQ;rw[a2];exact Qo l _ (tP (uk P))
def FC(x:Nd)(l:L Nd)(i:Nat)(s:L Ty):dM (cE (x::l)) i s=match i with|0=>cz (cG x) (s,false)|i+1=>dM (cE l) i s:=by rw[DK];cases i<;>simp[dM]
def Bt:∀(l:L Nd)(i:Nat)(O:L Ty),Jb O->Sm (dM (cE l) i O)
 |[],i,O,h=>by simp only[dM];exact bS _
 |x::l,0,O,h=>by rw[FC];exact Qo _ _ h
 |x::l,i+1,O,h=>by rw[FC];exact Bt l i O h
def Uj{P:Int}{M:L Nd}{V:L Ty}(h:bP P M=some V):V.length<=2:=by
 have h1:=lu h;by_cases Y:P=66;subst Y;obtain⟨x,y,N,p,S,xs,t,u,rfl,rfl,_⟩:=Jc h rfl;simp;have h2:(gH P).length<=2:=by unfold gH;grind
 unfold bP at h;grind
def Wr(P:Int)(M:L Nd)(V s:L Ty)(C:sL s)(hf:bP P M=some V):Sm (nZ P M (cE M) V s):=by
 have B:=Wn hf;have I:=Uj hf;have G:=yU (λt h=>(B t h).2) (s:=V) 0
 refine bB (ZQ _ _ _ C) (bB (bB (gW (eg ai (tP C))) (bS _)) (bB (Wo _ _ _ _ C B (Bt M)) (bB (Wp _ _ _ _ C B I (Bt M))
  (bB (Qm _ _ _ _ _ C B I (Bt M)) (bB (Qn _ _ C) (bB (ZR _ _ _ C B) (Wq _ _ _ C)))))))
def ZT(n:Nd)(s:L Ty)(C:sL s):Sm (fZ n s):=by
 obtain⟨Y,N,P,S,M⟩:=n;refine bB (Qo _ _ (tP C)) (bB (bS _) ?_);cases hf:bP P M with
 |none=>exact bS _
 |some V=>exact Wr P M V s C hf
end Go.cw
namespace Go.Proofs
open Go.cw
attribute [local irreducible] AK ah aR bM aJ gl ni ig jc br cz fZ cE j8 gJ
def ij{a:L CV}{r:CR}(h:r=bw 5:=by first|(simp[eZ,dD,aU,aV,aaE,aaH,dM];done)|(simp[*,eZ,dD,aU,aV,aaE,aaH,dM];done)) (q:af 128 a (.eF [.agg [.any,.any],.int .i64 5]):=by
  refine qn func128 call128 λβ hf=>?_
  exact dw):af 128 a (gV r):=by rw[h,dL bn];exact q
def Au{a:L CV}{r:CR}{l:L Ty}(h:r=gy l:=by first|(simp[eZ,dD,aU,aV,aaE,aaH,dM];done)|(simp[*,eZ,dD,aU,aV,aaE,aaH,dM];done)) (q:af 128 a (.eF [.agg [.sl 2 (az l),.bool false],.int .i64 0]):=by
  refine qn func128 call128 λβ hf=>?_
  exact dw):af 128 a (gV r):=by rw[h];exact q
def FD(P:Int)(s:L Ty)(J:P=69\/P=70\/P=71\/P=72\/93<=P)(I:s.length<=9999999990):af 128 [.int .i64 P,.sl 2 (az s)] (gV (eZ P s)):=by
 by_cases W:P=93
 ·subst W;rcases s with _|⟨⟨T,us⟩,r⟩
  have A:=lB ([]) [3];exact ij;by_cases C:T=3;subst C;have A:=zW (.mk 3 us::r) [3];have S:=uh (r) [.mk 4 []];have K:=cW 4;exact Au (l := .mk 4 []::r);have A:=lB (.mk T us::r) [3];exact ij
 by_cases V:P=94
 ·subst V;rcases s with _|⟨⟨T,us⟩,r⟩
  have A:=lB ([]) [3];exact ij;by_cases C:T=3;subst C;have A:=zW (.mk 3 us::r) [3];have S:=uh (r) [.mk 9 [.mk 4 []]];have K:=cW 4;have y1:=dB 9 [.mk 4 []];exact Au (l := .mk 9 [.mk 4 []]::r);have A:=lB (.mk T us::r) [3];exact ij
 by_cases Q:P=95
 ·subst Q;rcases s with _|⟨⟨T,us⟩,r⟩
  have A:=lB ([]) [4];exact ij;by_cases C:T=4;subst C;have A:=zW (.mk 4 us::r) [4];have S:=uh (r) [.mk 3 []];have K:=cW 3;exact Au (l := .mk 3 []::r);have A:=lB (.mk T us::r) [4];exact ij
 by_cases O:93<=P
 ·rw[show eZ P s=bw 5 from by unfold eZ;rw[if_neg W,if_neg V,if_neg Q,if_pos O]];rw[dL bn];have E:(P==93)=false:=by simpa using W
  have N:(P==94)=false:=by simpa using V
  have e3:(P==95)=false:=by simpa using Q
  have e4:decide (P>=93)=true:=aaX O;exact qdw func128 call128
 have Y:P=69\/P=70\/P=71\/P=72:=by omega
 clear J W V Q O;rcases s with _|⟨⟨T,us⟩,_|⟨⟨U,vs⟩,q⟩⟩
 ·rcases Y with rfl|rfl|rfl|rfl
  exact ij;exact ij;exact ij;exact ij
 ·rcases Y with rfl|rfl|rfl|rfl
  exact ij;exact ij;exact ij;exact ij
 have G:=Qh P T U Y
 have H:∀t,pe P T U=t->eZ P (.mk T us :: .mk U vs::q)=(if t=0 then bw 5 else if P=70/\t=5 then gy (.mk 9 [.mk 5 []]::q)else if P≠72 then gy (.mk t []::q)
   else gy (.mk 9 [.mk 11 [.mk (if T=5/\U=5 then 4 else t) [],.mk (if T=5 then 5 else 4) []]]::q)):=by
  rintro t rfl
  conv=>lhs;unfold eZ
  rw[if_neg ai,if_neg ai,if_neg ai,if_neg ai];rfl
 generalize pe P T U=t at G H;rw[H t rfl];clear H;simp only[aag]at I;by_cases B:t=0
 ·subst B;rw[if_pos Z,dL bn];rcases Y with rfl|rfl|rfl|rfl
  all_goals
   exact qdw func128 call128
 rw[if_neg B];have E:(t==0)=false:=by simpa using B
 rcases Y with rfl|rfl|rfl|rfl
 rw[if_neg ai,if_pos bn];have S:=uh (q) [.mk t []];rw[ff];refine qn func128 call128 λβ hf=>?_;have As:=cW t;exact dw
 ·by_cases M:t=5;subst M;rw[if_pos ⟨Z,Z⟩];have S:=uh (q) [.mk 9 [.mk 5 []]];rw[ff];refine qn func128 call128 λβ hf=>?_;have KB:=cW 5;have Uk:=dB 9 [.mk 5 []];exact dw;have N:(t==5)=false:=by simpa using M
  rw[if_neg (λh=>M h.2),if_pos bn];have S:=uh (q) [.mk t []];rw[ff];refine qn func128 call128 λβ hf=>?_;have ZU:=cW t;exact dw
 rw[if_neg ai,if_pos bn];have S:=uh (q) [.mk t []];rw[ff];refine qn func128 call128 λβ hf=>?_;have ZV:=cW t;exact dw;rw[if_neg ai,if_neg bn];by_cases C:T=5
 ·subst C;by_cases D:U=5;subst D;rw[if_pos ⟨Z,Z⟩,if_pos rfl];have S:=uh (q) [.mk 9 [.mk 11 [.mk 4 [],.mk 5 []]]];rw[ff];refine qn func128 call128 λβ hf=>?_;have u:=cW 4;have aeG:=cW 5;have ahn:=dB 11 [.mk 4 [],.mk 5 []];have aho:=dB 9 [.mk 11 [.mk 4 [],.mk 5 []]];exact dw;have N:(U==5)=false:=by simpa using D
  rw[if_neg (λh=>D h.2),if_pos rfl];have S:=uh (q) [.mk 9 [.mk 11 [.mk t [],.mk 5 []]]];rw[ff];refine qn func128 call128 λβ hf=>?_;have aeH:=cW 4;have aeI:=cW 5;have aeJ:=cW t;have ajn:=dB 11 [.mk t [],.mk 5 []];have ajo:=dB 9 [.mk 11 [.mk t [],.mk 5 []]];exact dw
 have N:(T==5)=false:=by simpa using C
 rw[if_neg (λh=>C h.1),if_neg C];have S:=uh (q) [.mk 9 [.mk 11 [.mk t [],.mk 4 []]]];rw[ff];refine qn func128 call128 λβ hf=>?_;have ajp:=cW 4;have ajq:=cW t;have ajr:=dB 11 [.mk t [],.mk 4 []];have ajs:=dB 9 [.mk 11 [.mk t [],.mk 4 []]];exact dw
end Go.Proofs
namespace Go.Proofs
open Go.cw
attribute [local irreducible] AK ah aR bM aJ gl ni ig jc br cz fZ cE j8 gJ
def fI{a:L CV}{r:CR}(h:r=bw 5:=by first|(simp[j9,dD,aU,aV,aaE,aaH,dM];done)|(simp[*,j9,dD,aU,aV,aaE,aaH,dM];done)) (q:af 129 a (.eF [.agg [.any,.any],.int .i64 5]):=by
  refine qn func129 call129 λβ hf=>?_
  exact dw):af 129 a (gV r):=by rw[h,dL bn];exact q
def pV{a:L CV}{r:CR}{l:L Ty}(h:r=gy l:=by first|(simp[j9,dD,aU,aV,aaE,aaH,dM];done)|(simp[*,j9,dD,aU,aV,aaE,aaH,dM];done)) (q:af 129 a (.eF [.agg [.sl 2 (az l),.bool false],.int .i64 0]):=by
  refine qn func129 call129 λβ hf=>?_
  exact dw):af 129 a (gV r):=by rw[h];exact q
def MU(P:Int)(M:L Nd)(G s:L Ty)(D:73<=P/\P<=83)(hf:bP P M=some G)(B:sL s)(E:s.length<=9999999990):af 129 [.int .i64 P,.sl 2 (az G),.sl 2 (az s)] (gV (j9 P G s)):=by
 have O:P=73\/P=74\/P=75\/P=76\/P=77\/P=78\/P=79\/P=80\/P=81\/P=82\/P=83:=by omega
 clear D;rcases O with rfl|rfl|rfl|rfl|rfl|rfl|rfl|rfl|rfl|rfl|rfl
 ·obtain⟨rfl,rfl⟩:=dG hf rfl;clear hf;rcases s with _|⟨⟨T,us⟩,_|⟨⟨U,vs⟩,q⟩⟩
  exact fI;exact fI;have h1:=gn (.mk T us) (.mk U vs) ga;have h2:=mB (.mk T us) ga;cases g1:cV (.mk T us) (.mk U vs);rw[g1]at h1;exact fI;cases H:gl (.mk T us);rw[g1]at h1;rw[H]at h2;exact fI;rw[g1]at h1;rw[H]at h2;have N:=Ar (az (.mk T us :: .mk U vs::q)) 1 DU;have S:=uh (q) [.mk 3 []];have Y:=cW 3;exact pV (l := .mk 3 []::q)
 ·obtain⟨rfl,rfl⟩:=dG hf rfl;clear hf;rcases s with _|⟨⟨T,us⟩,r⟩
  have A:=lB ([]) [3];exact fI;by_cases C:T=3;subst C;have A:=zW (.mk 3 us::r) [3];have S:=uh (r) [.mk 2 []];have Y:=cW 2;exact pV (l := .mk 2 []::r);have A:=lB (.mk T us::r) [3];exact fI
 ·obtain⟨rfl,rfl⟩:=dG hf rfl;clear hf;rcases s with _|⟨⟨T,us⟩,r⟩
  have A:=lB ([]) [3];exact fI;by_cases C:T=3;subst C;have A:=zW (.mk 3 us::r) [3];have S:=uh (r) [.mk 2 []];have Y:=cW 2;exact pV (l := .mk 2 []::r);have A:=lB (.mk T us::r) [3];exact fI
 ·obtain⟨rfl,rfl⟩:=dG hf rfl;clear hf;rcases s with _|⟨⟨T,us⟩,r⟩
  have A:=lB ([]) [3];exact fI;by_cases C:T=3;subst C;have A:=zW (.mk 3 us::r) [3];have S:=uh (r) [.mk 2 []];have Y:=cW 2;exact pV (l := .mk 2 []::r);have A:=lB (.mk T us::r) [3];exact fI
 ·obtain⟨rfl,rfl⟩:=dG hf rfl;clear hf;rcases s with _|⟨⟨T,us⟩,r⟩
  have A:=lB ([]) [2];exact fI;by_cases C:T=2;subst C;have A:=zW (.mk 2 us::r) [2];have S:=Ql (.mk 2 us::r);exact pV (l := .mk 2 us::r);have A:=lB (.mk T us::r) [2];exact fI
 ·obtain⟨rfl,rfl⟩:=dG hf rfl;clear hf;rcases s with _|⟨⟨T,us⟩,_|⟨⟨U,vs⟩,q⟩⟩
  have A:=lB ([]) [2,2];exact fI;have A:=lB ([.mk T us]) [2,2];exact fI;by_cases C:T=2/\U=2;obtain⟨rfl,rfl⟩:=C;have A:=zW (.mk 2 us :: .mk 2 vs::q) [2,2];have S:=Ql (.mk 2 vs::q);exact pV (l := .mk 2 vs::q);have W:T=2->¬U=2:=λa b=>C ⟨a,b⟩;have A:=lB (.mk T us :: .mk U vs::q) [2,2];exact fI
 ·obtain⟨rfl,rfl⟩:=dG hf rfl;clear hf;rcases s with _|⟨⟨T,us⟩,_|⟨⟨U,vs⟩,q⟩⟩
  have A:=lB ([]) [2,2];exact fI;have A:=lB ([.mk T us]) [2,2];exact fI;by_cases C:T=2/\U=2;obtain⟨rfl,rfl⟩:=C;have A:=zW (.mk 2 us :: .mk 2 vs::q) [2,2];have S:=Ql (.mk 2 vs::q);exact pV (l := .mk 2 vs::q);have W:T=2->¬U=2:=λa b=>C ⟨a,b⟩;have A:=lB (.mk T us :: .mk U vs::q) [2,2];exact fI
 ·obtain⟨rfl,rfl⟩:=dG hf rfl;clear hf;rcases s with _|⟨⟨T,us⟩,_|⟨⟨U,vs⟩,q⟩⟩
  have A:=lB ([]) [6,6];exact fI;have A:=lB ([.mk T us]) [6,6];exact fI;by_cases C:T=6/\U=6;obtain⟨rfl,rfl⟩:=C;have A:=zW (.mk 6 us :: .mk 6 vs::q) [6,6];have S:=Ql (.mk 6 vs::q);exact pV (l := .mk 6 vs::q);have W:T=6->¬U=6:=λa b=>C ⟨a,b⟩;have A:=lB (.mk T us :: .mk U vs::q) [6,6];exact fI
 ·obtain⟨rfl,rfl⟩:=dG hf rfl;clear hf;rcases s with _|⟨⟨T,us⟩,r⟩
  exact fI;have h2:=oa (.mk T us) ga;have Q:=Ar (az (.mk T us::r)) 0 DU;cases H:ig (.mk T us);rw[H]at h2;exact fI;rw[H]at h2;have S:=uh (r) [.mk 6 []];have Y:=cW 6;exact pV (l := .mk 6 []::r)
 ·obtain⟨x,t,rfl,rfl,J⟩:=yV hf rfl;clear hf;have I:=J.2;obtain⟨V,K⟩:=t;have h2:=oa (.mk V K) ai;rcases s with _|⟨⟨T,us⟩,r⟩
  have A:=lB ([]) [6];exact fI;by_cases C:T=6;subst C;have A:=zW (.mk 6 us::r) [6];cases H:ig (.mk V K);rw[H]at h2;exact fI;rw[H]at h2;have S:=uh (r) [.mk 9 [.mk V K]];have Y:=dB 9 [.mk V K];exact pV (l := .mk 9 [.mk V K]::r);have A:=lB (.mk T us::r) [6];exact fI
 obtain⟨rfl,rfl⟩:=dG hf rfl;clear hf;rcases s with _|⟨⟨T,us⟩,r⟩
 exact fI;have h2:=oa (.mk T us) ga;have Q:=Ar (az (.mk T us::r)) 0 DU;cases H:ig (.mk T us);rw[H]at h2;exact fI;rw[H]at h2;rw[show j9 83 ([]) (.mk T us::r)=(([],true),0)from by simp[j9,dD,aU,aV,aaE,aaH,dM,H]];rw[MM];exact qdw func129 call129
end Go.Proofs
namespace Go.Proofs
open Go.cw
attribute [local irreducible] AK ah aR bM aJ gl ni ig jc br cz fZ cE j8 gJ
def iq{a:L CV}{r:CR}(h:r=bw 5:=by first|(simp[iI,dD,aU,aV,aaE,aaH,dM];done)|(simp[*,iI,dD,aU,aV,aaE,aaH,dM];done)) (q:af 130 a (.eF [.agg [.any,.any],.int .i64 5]):=by
  refine qn func130 call130 λβ hf=>?_
  exact dw):af 130 a (gV r):=by rw[h,dL bn];exact q
def od{a:L CV}{r:CR}{l:L Ty}(h:r=gy l:=by first|(simp[iI,dD,aU,aV,aaE,aaH,dM];done)|(simp[*,iI,dD,aU,aV,aaE,aaH,dM];done)) (q:af 130 a (.eF [.agg [.sl 2 (az l),.bool false],.int .i64 0]):=by
  refine qn func130 call130 λβ hf=>?_
  exact dw):af 130 a (gV r):=by rw[h];exact q
def KD(P:Int)(M:L Nd)(G s:L Ty)(hP:84<=P/\P<=92)(hf:bP P M=some G)(B:sL s)(hl:s.length<=9999999990):af 130 [.int .i64 P,.sl 2 (az G),.sl 2 (az s)] (gV (iI P G s)):=by
 have Ul:P=84\/P=85\/P=86\/P=87\/P=88\/P=89\/P=90\/P=91\/P=92:=by omega
 clear hP;rcases Ul with rfl|rfl|rfl|rfl|rfl|rfl|rfl|rfl|rfl
 ·obtain⟨rfl,rfl⟩:=dG hf rfl;clear hf;rcases s with _|⟨⟨T,us⟩,_|⟨⟨U,vs⟩,q⟩⟩
  have A:=lB ([]) [0,4];exact iq;have A:=lB ([.mk T us]) [0,4];exact iq;have h2:=mB (.mk T us) ga;by_cases D:U=4;subst D;have A:=zW (.mk T us :: .mk 4 vs::q) [0,4];cases H:gl (.mk T us);rw[H]at h2;exact iq;rw[H]at h2;have S:=uh (q) [.mk 9 [.mk 15 [.mk T us]]];have Q:=dB 15 [.mk T us];have E:=dB 9 [.mk 15 [.mk T us]];exact od (l := .mk 9 [.mk 15 [.mk T us]]::q);have A:=lB (.mk T us :: .mk U vs::q) [0,4];exact iq
 ·obtain⟨rfl,rfl⟩:=dG hf rfl;clear hf;rcases s with _|⟨⟨T,us⟩,r⟩
  have A:=lB ([]) [15];exact iq;by_cases C:T=15;subst C;obtain⟨⟨X,xs⟩,rfl,hx⟩:=fN (B _ (ahp ..)) rfl;have A:=zW (.mk 15 [.mk X xs]::r) [15];have S:=uh (.mk 15 [.mk X xs]::r) [.mk 11 [.mk 7 [],.mk 11 [.mk X xs,.mk 4 []]]];have Q:=cW 7;have E:=cW 4;have y2:=dB 11 [.mk X xs,.mk 4 []];have y3:=dB 11 [.mk 7 [],.mk 11 [.mk X xs,.mk 4 []]];exact od (l := .mk 11 [.mk 7 [],.mk 11 [.mk X xs,.mk 4 []]] :: .mk 15 [.mk X xs]::r);have A:=lB (.mk T us::r) [15];exact iq
 ·obtain⟨rfl,rfl⟩:=dG hf rfl;clear hf;rcases s with _|⟨⟨T,us⟩,_|⟨⟨U,vs⟩,q⟩⟩
  have A:=lB ([]) [15,11];exact iq;have A:=lB ([.mk T us]) [15,11];exact iq;by_cases C:T=15/\U=11;obtain⟨rfl,rfl⟩:=C;obtain⟨⟨X,xs⟩,⟨Y,N⟩,rfl,hx,hy⟩:=fE (B (.mk 11 vs) cc) rfl;have A:=zW (.mk 15 us :: .mk 11 [.mk X xs,.mk Y N]::q) [15,11];by_cases hX:X=4;subst hX;by_cases u:Y=4;subst u;have S:=uh (q) [.mk 9 [.mk 11 [.mk 15 us,.mk 15 us]]];have Q:=dB 11 [.mk 15 us,.mk 15 us];have E:=dB 9 [.mk 11 [.mk 15 us,.mk 15 us]];exact od (l := .mk 9 [.mk 11 [.mk 15 us,.mk 15 us]]::q);have e2:(Y==4)=false:=(by simpa using u);exact iq;have e2:(X==4)=false:=(by simpa using hX);exact iq;have J:T=15->¬U=11:=λa b=>C ⟨a,b⟩;have A:=lB (.mk T us :: .mk U vs::q) [15,11];have O:¬(T=15/\U=11/\dD (vs.getD 0 lJ)=4/\dD (vs.getD 1 lJ)=4):=λh=>C ⟨h.1,h.2.1⟩;rw[show iI 86 ([]) (.mk T us :: .mk U vs::q)=bw 5 from by unfold iI;rw[if_neg bn,if_neg bn];dsimp only;rw[if_neg bn,if_neg bn,if_pos rfl];exact if_neg O,dL bn];exact qdw func130 call130
 ·obtain⟨rfl,rfl⟩:=dG hf rfl;clear hf;rcases s with _|⟨⟨T,us⟩,r⟩
  have A:=lB ([]) [11];exact iq;by_cases C:T=11;subst C;obtain⟨⟨X,xs⟩,⟨Y,N⟩,rfl,hx,hy⟩:=fE (B (.mk 11 us) cc) rfl;have A:=zW (.mk 11 [.mk X xs,.mk Y N]::r) [11];have SU:=hx.2;have h1:=gn (.mk X xs) (.mk Y N) ai;by_cases hX:X=15;subst hX;cases g1:cV (.mk 15 xs) (.mk Y N);rw[g1]at h1;exact iq;rw[g1]at h1;have S:=uh (r) [.mk 9 [.mk 15 xs]];have Q:=dB 9 [.mk 15 xs];exact od (l := .mk 9 [.mk 15 xs]::r);have e2:(X==15)=false:=(by simpa using hX);exact iq;have A:=lB (.mk T us::r) [11];exact iq
 ·obtain⟨x0,t,rfl,rfl,ht⟩:=yV hf rfl;clear hf;have ht2:=ht.2;obtain⟨V,K⟩:=t;rcases s with _|⟨⟨T,us⟩,_|⟨⟨U,vs⟩,_|⟨⟨W,I⟩,q⟩⟩⟩
  have A:=lB ([]) [0,5,7];exact iq;have A:=lB ([.mk T us]) [0,5,7];exact iq;have A:=lB ([.mk T us,.mk U vs]) [0,5,7];exact iq;have h1:=gn (.mk T us) (.mk V K) ga;have h2:=qS (.mk T us) ga;by_cases D:U=5/\W=7;obtain⟨rfl,rfl⟩:=D;have A:=zW (.mk T us :: .mk 5 vs :: .mk 7 I::q) [0,5,7];cases g1:cV (.mk T us) (.mk V K);rw[g1]at h1;exact iq;cases H:jc (.mk T us);rw[g1]at h1;rw[H]at h2;exact iq;rw[g1]at h1;rw[H]at h2;have S:=uh (q) [.mk 8 []];have Q:=cW 8;exact od (l := .mk 8 []::q);have J:U=5->¬W=7:=λa b=>D ⟨a,b⟩;have A:=lB (.mk T us :: .mk U vs :: .mk W I::q) [0,5,7];have O:¬(U=5/\W=7/\cV (.mk T us) (.mk V K)=true/\jc (.mk T us)=true):=λh=>D ⟨h.1,h.2.1⟩;rw[show iI 88 ([.mk V K]) (.mk T us :: .mk U vs :: .mk W I::q)=bw 5 from by unfold iI;rw[if_neg bn,if_neg bn];dsimp only;rw[if_neg bn,if_neg bn,if_neg bn,if_neg bn,if_pos rfl];exact if_neg O,dL bn];exact qdw func130 call130
 obtain⟨rfl,rfl⟩:=dG hf rfl;clear hf;have S:=uh (s) [.mk 7 []];have Q:=cW 7;exact od (l := .mk 7 []::s);obtain⟨rfl,rfl⟩:=dG hf rfl;clear hf;have S:=uh (s) [.mk 7 []];have Q:=cW 7;exact od (l := .mk 7 []::s);obtain⟨rfl,rfl⟩:=dG hf rfl;clear hf;have S:=uh (s) [.mk 5 []];have Q:=cW 5;exact od (l := .mk 5 []::s);obtain⟨rfl,rfl⟩:=dG hf rfl;clear hf;have S:=uh (s) [.mk 5 []];have Q:=cW 5;exact od (l := .mk 5 []::s)
end Go.Proofs
namespace Go.Proofs
open Go.cw
attribute [local irreducible] AK ah aR bM aJ gl ni ig jc br cz fZ cE j8 gJ
def eH{a:L CV}{r:CR}(h:r=bw 5:=by first|(simp[dU,dD,aU,aV,aaE,aaH,dM];done)|(simp[*,dU,dD,aU,aV,aaE,aaH,dM];done)) (q:af 125 a (.eF [.agg [.any,.any],.int .i64 5]):=by
  refine qn func125 call125 λβ hf=>?_
  exact dw):af 125 a (gV r):=by rw[h,dL bn];exact q
def jO{a:L CV}{r:CR}{l:L Ty}(h:r=gy l:=by first|(simp[dU,dD,aU,aV,aaE,aaH,dM];done)|(simp[*,dU,dD,aU,aV,aaE,aaH,dM];done)) (q:af 125 a (.eF [.agg [.sl 2 (az l),.bool false],.int .i64 0]):=by
  refine qn func125 call125 λβ hf=>?_
  exact dw):af 125 a (gV r):=by rw[h];exact q
def FE(P nN:Int)(nS:L UInt8)(M:L Nd)(G s:L Ty)(hP:46<=P/\P<=58)(hf:bP P M=some G)(B:sL s)(hl:s.length<=9999999990)(hsz:aO M<=8589934593)
  (D:∀a∈M,∀s':L Ty,sL s'->s'.length<=s.length+1->af 59 [.sl 5 (aD (cG a)),.sl 2 (az s')] (wG (cz (cG a) (s',false)))) :
  af 125 [aM (.mk 2 nN P nS M),.sl 2 (az G),.sl 2 (az s)] (gV (dU P (cE M) G s)):=by
 have Ul:P=46\/P=47\/P=48\/P=49\/P=50\/P=51\/P=52\/P=53\/P=54\/P=55\/P=56\/P=57\/P=58:=by omega
 clear hP;rcases Ul with rfl|rfl|rfl|rfl|rfl|rfl|rfl|rfl|rfl|rfl|rfl|rfl|rfl
 ·obtain⟨rfl,rfl⟩:=dG hf rfl;clear hf;rcases s with _|⟨⟨T,us⟩,_|⟨⟨U,vs⟩,q⟩⟩
  exact eH;exact eH;have el1:=Ar (az (.mk T us :: .mk U vs::q)) 1 DU;have O:=uh (q) [.mk 11 [.mk T us,.mk U vs]];have y0:=dB 11 [.mk T us,.mk U vs];exact jO (l := .mk 11 [.mk T us,.mk U vs]::q)
 ·obtain⟨rfl,rfl⟩:=dG hf rfl;clear hf;rcases s with _|⟨⟨T,us⟩,r⟩
  exact eH;by_cases S:T=11;subst S;obtain⟨⟨X,C⟩,⟨Y,W⟩,rfl,hx,hy⟩:=fE (B (.mk 11 us) cc) rfl;have A:=zW (.mk 11 [.mk X C,.mk Y W]::r) [11];have O:=uh (r) [.mk X C,.mk Y W];exact jO (l := .mk X C :: .mk Y W::r);have A:=lB (.mk T us::r) [11];exact eH
 ·obtain⟨rfl,rfl⟩:=dG hf rfl;clear hf;rcases s with _|⟨⟨T,us⟩,r⟩
  exact eH;by_cases S:T=11;subst S;obtain⟨⟨X,C⟩,⟨Y,W⟩,rfl,hx,hy⟩:=fE (B (.mk 11 us) cc) rfl;have A:=zW (.mk 11 [.mk X C,.mk Y W]::r) [11];have O:=uh (r) [.mk X C];exact jO (l := .mk X C::r);have A:=lB (.mk T us::r) [11];exact eH
 ·obtain⟨rfl,rfl⟩:=dG hf rfl;clear hf;rcases s with _|⟨⟨T,us⟩,r⟩
  exact eH;by_cases S:T=11;subst S;obtain⟨⟨X,C⟩,⟨Y,W⟩,rfl,hx,hy⟩:=fE (B (.mk 11 us) cc) rfl;have A:=zW (.mk 11 [.mk X C,.mk Y W]::r) [11];have O:=uh (r) [.mk Y W];exact jO (l := .mk Y W::r);have A:=lB (.mk T us::r) [11];exact eH
 ·obtain⟨x0,t,rfl,rfl,ht⟩:=yV hf rfl;clear hf;have ht2:=ht.2;obtain⟨V,K⟩:=t;rcases s with _|⟨⟨T,us⟩,r⟩
  exact eH;have O:=uh (r) [.mk 12 [.mk T us,.mk V K]];have y0:=dB 12 [.mk T us,.mk V K];exact jO (l := .mk 12 [.mk T us,.mk V K]::r)
 ·obtain⟨x0,t,rfl,rfl,ht⟩:=yV hf rfl;clear hf;have ht2:=ht.2;obtain⟨V,K⟩:=t;rcases s with _|⟨⟨T,us⟩,r⟩
  exact eH;have O:=uh (r) [.mk 12 [.mk V K,.mk T us]];have y0:=dB 12 [.mk V K,.mk T us];exact jO (l := .mk 12 [.mk V K,.mk T us]::r)
 ·obtain⟨E,N,J,xs,H,u,S2,W,rfl,rfl⟩:=Bu hf rfl;clear hf;rcases s with _|⟨⟨T,us⟩,r⟩
  exact eH;by_cases S:T=12;subst S;simp only[aag]at hl;have zr:=aQ r;have Q:=(qg B).2;obtain⟨⟨X,C⟩,⟨Y,qs⟩,rfl,hx,hy⟩:=fE (B (.mk 12 us) cc) rfl;have A:=zW (.mk 12 [.mk X C,.mk Y qs]::r) [12];have w1:=D (.mk 3 E N J xs) cc (.mk X C::r) (mD hx Q) cS;have I:=lK xs (.mk X C::r,false) (mD hx Q);have w2:=D (.mk 3 H u S2 W) cc (.mk Y qs::r) (mD hy Q) cS;have o2:=lK W (.mk Y qs::r,false) (mD hy Q);rw[show dU 52 (cE ([.mk 3 E N J xs,.mk 3 H u S2 W])) ([]) (.mk 12 [.mk X C,.mk Y qs]::r)=cZ (cz xs (.mk X C::r,false)) (cz W (.mk Y qs::r,false))from by simp[dU,dD,aU,aV,aaE,aaH,dM,cE]];simp only[cG]at w1;generalize cz xs (.mk X C::r,false)=r1 at w1 I ⊢;obtain⟨⟨t1,b1⟩,e1⟩:=r1;simp only[aag]at I;simp only[cG]at w2;generalize cz W (.mk Y qs::r,false)=r2 at w2 o2 ⊢;obtain⟨⟨t2,b2⟩,e2⟩:=r2;simp only[aag]at o2;have hm:=jF ((t1,b1),e1) ((t2,b2),e2) I.1 xj;generalize cZ ((t1,b1),e1) ((t2,b2),e2)=rm at hm ⊢;obtain⟨⟨tm,bm⟩,em⟩:=rm;exact qdw func125 call125;have A:=lB (.mk T us::r) [12];exact eH
 ·obtain⟨rfl,rfl⟩:=dG hf rfl;clear hf;rcases s with _|⟨⟨T,us⟩,r⟩
  exact eH;have O:=uh (r) [.mk 9 [.mk T us]];have y0:=dB 9 [.mk T us];exact jO (l := .mk 9 [.mk T us]::r)
 obtain⟨x0,t,rfl,rfl,ht⟩:=yV hf rfl;clear hf;have ht2:=ht.2;obtain⟨V,K⟩:=t;have O:=uh (s) [.mk 9 [.mk V K]];have y0:=dB 9 [.mk V K];exact jO (l := .mk 9 [.mk V K]::s)
 ·obtain⟨E,N,J,xs,H,u,S2,W,rfl,rfl⟩:=Bu hf rfl;clear hf;rcases s with _|⟨⟨T,us⟩,r⟩
  exact eH;by_cases S:T=9;subst S;simp only[aag]at hl;have zr:=aQ r;have Q:=(qg B).2;obtain⟨⟨X,C⟩,rfl,hx⟩:=fN (B (.mk 9 us) cc) rfl;have A:=zW (.mk 9 [.mk X C]::r) [9];have w1:=D (.mk 3 E N J xs) cc (r) Q cS;have I:=lK xs (r,false) Q;have w2:=D (.mk 3 H u S2 W) cc (.mk X C::r) (mD hx Q) cS;have o2:=lK W (.mk X C::r,false) (mD hx Q);rw[show dU 55 (cE ([.mk 3 E N J xs,.mk 3 H u S2 W])) ([]) (.mk 9 [.mk X C]::r)=cZ (cz xs (r,false)) (cz W (.mk X C::r,false))from by simp[dU,dD,aU,aV,aaE,aaH,dM,cE]];simp only[cG]at w1;generalize cz xs (r,false)=r1 at w1 I ⊢;obtain⟨⟨t1,b1⟩,e1⟩:=r1;simp only[aag]at I;simp only[cG]at w2;generalize cz W (.mk X C::r,false)=r2 at w2 o2 ⊢;obtain⟨⟨t2,b2⟩,e2⟩:=r2;simp only[aag]at o2;have hm:=jF ((t1,b1),e1) ((t2,b2),e2) I.1 xj;generalize cZ ((t1,b1),e1) ((t2,b2),e2)=rm at hm ⊢;obtain⟨⟨tm,bm⟩,em⟩:=rm;refine qn func125 call125 λβ hf=>?_;have As:=fB r ai;exact dw;have A:=lB (.mk T us::r) [9];exact eH
 obtain⟨x0,t,rfl,rfl,ht⟩:=yV hf rfl;clear hf;have ht2:=ht.2;obtain⟨V,K⟩:=t;have O:=uh (s) [.mk 10 [.mk V K]];have y0:=dB 10 [.mk V K];exact jO (l := .mk 10 [.mk V K]::s)
 ·obtain⟨rfl,rfl⟩:=dG hf rfl;clear hf;rcases s with _|⟨⟨T,us⟩,_|⟨⟨U,vs⟩,q⟩⟩
  exact eH;have A:=lB ([.mk T us]) [0,10];exact eH;by_cases hU:U=10;subst hU;obtain⟨⟨X,C⟩,rfl,hx⟩:=fN (B (.mk 10 vs) cc) rfl;have A:=zW (.mk T us :: .mk 10 [.mk X C]::q) [0,10];have h1:=gn (.mk T us) (.mk X C) ga;cases g1:cV (.mk T us) (.mk X C);rw[g1]at h1;exact eH;rw[g1]at h1;have O:=Ql (.mk 10 [.mk X C]::q);exact jO (l := .mk 10 [.mk X C]::q);have A:=lB (.mk T us :: .mk U vs::q) [0,10];exact eH
 obtain⟨E,N,J,xs,H,u,S2,W,rfl,rfl⟩:=Bu hf rfl;clear hf;rcases s with _|⟨⟨T,us⟩,r⟩
 exact eH;by_cases S:T=10;subst S;simp only[aag]at hl;have zr:=aQ r;have Q:=(qg B).2;obtain⟨⟨X,C⟩,rfl,hx⟩:=fN (B (.mk 10 us) cc) rfl;have A:=zW (.mk 10 [.mk X C]::r) [10];have w1:=D (.mk 3 E N J xs) cc (.mk X C :: .mk 10 [.mk X C]::r) (mD hx B) cS;have I:=lK xs (.mk X C :: .mk 10 [.mk X C]::r,false) (mD hx B);have w2:=D (.mk 3 H u S2 W) cc (r) Q cS;have o2:=lK W (r,false) Q;rw[show dU 58 (cE ([.mk 3 E N J xs,.mk 3 H u S2 W])) ([]) (.mk 10 [.mk X C]::r)=cZ (cz xs (.mk X C :: .mk 10 [.mk X C]::r,false)) (cz W (r,false))from by simp[dU,dD,aU,aV,aaE,aaH,dM,cE]];simp only[cG]at w1;generalize cz xs (.mk X C :: .mk 10 [.mk X C]::r,false)=r1 at w1 I ⊢;obtain⟨⟨t1,b1⟩,e1⟩:=r1;simp only[aag]at I;simp only[cG]at w2;generalize cz W (r,false)=r2 at w2 o2 ⊢;obtain⟨⟨t2,b2⟩,e2⟩:=r2;simp only[aag]at o2;have hm:=jF ((t1,b1),e1) ((t2,b2),e2) I.1 xj;generalize cZ ((t1,b1),e1) ((t2,b2),e2)=rm at hm ⊢;obtain⟨⟨tm,bm⟩,em⟩:=rm;refine qn func125 call125 λβ hf=>?_;have KB:=fB r ai;exact dw;have A:=lB (.mk T us::r) [10];exact eH
end Go.Proofs
