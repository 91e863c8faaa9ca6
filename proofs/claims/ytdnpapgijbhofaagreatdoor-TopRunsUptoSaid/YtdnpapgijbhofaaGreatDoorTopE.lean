/- What is just like itself: -/
import Derived.Test.YtdnpapgijbhofaaGreatDoorTopR
open Go.Proofs.Tryz
set_option linter.defProp false
set_option linter.unusedVariables false
set_option linter.unusedSimpArgs false
set_option maxHeartbeats 0
set_option maxRecDepth 100000
namespace Go.Proofs
open Go.cw
def PB(t:Ty):cV t t=true:=(gq t t).2 rfl
def PC(v:Vl):rY v v=true:=(Kj v v).2 rfl
attribute [local irreducible] AK ah aR bM cX cn bH cN gh dX.cq dX.hD wB wF eR
def Ap:∀(t:Nd),bD t<=1099511627776->af 51 [aM t,aM t] (.bool true)
 |.mk W a2 A P M,C=>by
  simp only[bD]at C;have K:=gu M;have T:∀x∈M,af 51 [aM x,aM x] (.bool true):=λx D=>Ap x aaM;have E:(W != W)=false:=by simp
  have U:(a2 != a2)=false:=by simp
  have J:(bif false then true else(a2 != a2))=false:=U;have n3:(A != A)=false:=by simp
  have H:(bif false then true else(A != A))=false:=n3;have Q:(!(P==P))=false:=by simp
  have G:(bif false then true else !(P==P))=false:=Q;have n5:((((aD M).length:Nat):Int) != (((aD M).length:Nat):Int))=false:=by simp
  have B:(bif false then true else((((aD M).length:Nat):Int) != (((aD M).length:Nat):Int)))=false:=n5;refine qn func51 call51 λβ hf=>?_
  repeat' (first|exact wq|refine wz ?_|(intro h;rw[h]))
  refine AK.dN (α:=Nat) (λi=>i<=M.length) (λi=>M.length-i)
   (λi=>[(44,.c (.int .i64 i)),(43,.c (.int .i64 (aD M).length)),(2,.ptr 2 0),(3,.ptr 3 0)])
   (λ_=>[(2,[.c (.int .i64 W),.c (.int .i64 a2),.c (.int .i64 A),.c (.str P),.c (.sl 5 (aD M))]),(3,[.c (.int .i64 W),.c (.int .i64 a2),.c (.int .i64 A),.c (.str P),.c (.sl 5 (aD M))])]) (λ_=>[]) [2,3] 0
   (aeW _) ce ⟨Z,Z,trivial⟩ trivial Z Z Z ?_
  intro i O Y;rcases ie M i O with ⟨x,D,q⟩|N
  ·have I:=mT D;have hq:=T x q;have V:=eK D;have S:=Y (i+1) (bt D) oy;clear Y;obtain⟨u,x2,x3,x4,x5⟩:=x
   repeat' (first|exact wq|refine wz ?_|(intro h;rw[h]))
   exact AK.again S ⟨.inl (dY oy),.inl Z,.inl Z,.inl Z,trivial⟩ ⟨Z,Z,trivial⟩ trivial Z Z Z
  have I:=jZ N;clear Y
  repeat' (first|exact wq|refine wz ?_|(intro h;rw[h]))
termination_by t=>SizeOf.sizeOf t
decreasing_by
 have:=aeQ D;simp at this ⊢;omega
def qN{a b:Acc}(h:b.is=a.is/\b.param=a.param/\b.store=a.store/\b.code=a.code)(C:KI a):af 21 [.agg (tV a),.agg (tV b)] (.bool true):=by
 obtain⟨O,bX,S,⟨G,U⟩,⟨B,K⟩,code,⟨u,M,N,J,q,H,E⟩⟩:=a;obtain⟨W,D,V,A,s',Y,⟨q1,q2,q3,q4,q5,q6,q7⟩⟩:=b;simp only at h;obtain⟨h1,h2,I,T⟩:=h;subst h1 h2 I T;obtain⟨Q,P,_⟩:=C;simp only at Q P;have h1:=gn (.mk G U) (.mk G U) ai;have h2:=gn (.mk B K) (.mk B K) ai;have I:=Ap (.mk 0 0 0 [] Y) adT;rw[PB]at h1 h2;have e1:(W==W)=true:=by simp
 refine qn func21 call21 λβ hf=>?_
 repeat' (first|exact wq|refine wz ?_|(intro h;rw[h]))
def Co(a:Acc)(C:KI a):af 56 [.agg (tV a),.agg (tV a)] (.bool true):=by
 have h1:=qN (a:=a) (b:=a) ⟨Z,Z,Z,Z⟩ C;have h2:=x9 a.keep a.keep (by have:=C.2.2;omega);rw[PC]at h2;obtain⟨Y,bX,S,⟨G,U⟩,⟨B,K⟩,code,⟨u,M,O,Q,q,W,V⟩⟩:=a;have E:(bX==bX)=true:=by simp
 have T:(bif true then(bX==bX)else false)=true:=E;have N:(S==S)=true:=by simp
 have P:(bif true then(S==S)else false)=true:=N;refine qn func56 call56 λβ hf=>?_
 repeat' (first|exact wq|refine wz ?_|(intro h;rw[h]))
def q8{l:dX}(I:oY l):af 25 [.agg (cN l),.agg (cN l)] (.bool true):=by
 have W:=I.h12;have U:=uy W;refine qn func25 call25 λβ hf=>?_
 repeat' (first|exact wq|refine wz ?_|(intro h;rw[h]))
 refine AK.dN (α:=Nat) (λi=>i<=12) (λi=>12-i) (λi=>[(6,.c (ag (i:Nat))),(2,.ptr 2 0),(3,.ptr 3 0)]) (λ_=>[(2,bH l),(3,bH l)]) (λ_=>[]) [2,3] 0
  (aeW _) ce ⟨Z,Z,trivial⟩ trivial Z (dI Z (b8 _ _) (dI Z (b8 _ _) Z)) Z ?_
 intro i P Y;by_cases Q:i<12
 ·have E:decide ((i:Int)<12)=true:=aaX ai;have M:Nat.blt i 12=true:=by rw[afP];omega
  have T:=ep (l:=l) (i:=i) W ai ai;rw[abU]at T;have hq:=Co (bq l i) (I.size _ (abz T));have S:=Y (i+1) ai ai;clear Y;generalize bq l i=a at *;obtain⟨O,bX,K,⟨G,J⟩,⟨B,H⟩,cd,⟨u,D,C,A,q,k6,k7⟩⟩:=a;obtain⟨r1,V⟩:=ir T;have d1:=V 0 _ Z;clear V
  repeat' (first|exact wq|refine wz ?_|(intro h;rw[h]))
  exact AK.again S ⟨.inl (dY (i:=i) ai),.inl Z,.inl Z,trivial⟩ ⟨Z,Z,trivial⟩ trivial Z (dI Z (b8 _ _) (dI Z (b8 _ _) Z)) Z
 obtain rfl:i=12:=by omega
 have E:decide (((12:Nat):Int)<12)=false:=by decide
 have N:(l.eG==l.eG)=true:=by simp
 clear Y
 repeat' (first|exact wq|refine wz ?_|refine ah.dj hX kn Z Z Z Z Z Z U Z ?_)
 exact uQ hf Z Z (aeM CV.bool N)
end Go.Proofs
