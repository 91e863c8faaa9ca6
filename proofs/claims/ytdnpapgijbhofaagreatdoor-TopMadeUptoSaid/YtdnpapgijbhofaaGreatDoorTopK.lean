/- The law TopMade: -/
import Derived.Test.YtdnpapgijbhofaaGreatDoorTopR
open Go.Proofs.Tryz
set_option linter.defProp false
set_option linter.unusedVariables false
set_option linter.unusedSimpArgs false
set_option maxHeartbeats 0
set_option maxRecDepth 100000
namespace Go.Proofs
open Go.cw
def PD(l:L Int):(cM l).length=l.length:=by simp[cM]
def PE{l:L Int}{k:Nat}{z:Int}(h:l[k]?=some z):(cM l)[k]?=some (.int .i64 z):=by simp[cM,h]
def abv{l:L Int}{k:Nat}{i:Int}(S:l.Pairwise (· < ·))(h1:∀x∈l.take k,x<i)(h2:∀y∈l.drop k,i<=y)(q:i∈l):l[k]?=some i/\(∀x∈l.take (k+1),x<i+1)/\(∀y∈l.drop (k+1),i+1<=y):=by
 have P:i∈l.drop k:=by
  rw[<- agc k l]at q;rcases List.mem_append.1 q with h|h
  have:=h1 i h;omega;exact h
 have Y:(l.drop k).Pairwise (· < ·):=S.sublist (List.drop_sublist k l);cases I:l.drop k with
 |nil=>rw[I]at P;simp at P
 |cons y r =>
  rw[I]at P Y h2;have U:y=i:=by
   rcases List.mem_cons.1 P with h|h
   exact h.symm;have:=(List.pairwise_cons.1 Y).1 i h;have:=h2 y cc;omega
  subst U;have A:k<l.length:=by by_cases h:k<l.length;exact h;rw[afy ai]at I;cases I
  have G:l[k]?=some y:=by have:=agS (xs:=l) (i:=k) (j:=0);rw[I]at this;simpa using this.symm
  refine⟨G,λx D=>?_,λz W=>?_⟩
  ·rw[List.take_add_one,G]at D;rcases List.mem_append.1 D with h|h
   have:=h1 x h;omega;simp at h;omega
  have:l.drop (k+1)=r:=by rw[<- List.drop_drop,I];rfl
  rw[this]at W;have:=(List.pairwise_cons.1 Y).1 z W;omega
attribute [local irreducible] AK ah aR bM cX cn bH cN gh dX.cq dX.hD wB wF eR
def VK(l:dX)(b:lN)(J:oY l)(hb:qF b)(hg:b.bU<=3000):af 18 [.agg (cN l),.agg (cN (gp l b).1),kP b,qD (gp l b).2] (.bool true):=by
 obtain⟨_,⟨t,ht,hp,U,I⟩,_,_⟩:=abw J hg hb;have hL:=l7 J hb hg;generalize gp l b=x at *;obtain⟨Ll,⟨code,done,gs,au,N⟩⟩:=x;obtain⟨src,B,jd,bU,ops⟩:=b;simp only[afM]at ht;subst ht;simp only at U I hL;have zl:=J.h12;have zL:=hL.h12;have Ip:=PD N;have hml:N.length<=12:=by
  by_cases h:N.length<=12;exact h;exfalso;have M:∀k:Nat,∀x,N[k]?=some x->(k:Int)<=x:=by
   intro k
   induction k with
   |zero=>intro x D;obtain⟨i,rfl,_⟩:=U x (abz D);omega
   |succ k Y =>
    intro x D;have G:=(List.getElem?_eq_some_iff.1 D).1;have h0:=Y N[k] (aeL ai);have h3:=List.pairwise_iff_getElem.1 hp k (k+1) ai G ai;have h4:=(List.getElem?_eq_some_iff.1 D).2;omega
  have h5:=M 12 N[12] (aeL ai);obtain⟨i,e,_,h6,_⟩:=U N[12] (ahi _);omega
 refine qn func18 call18 λβ hf=>?_
 repeat' (first|exact wq|refine wz ?_)
 refine AK.dN (α:=Nat×Nat) (λz=>z.1<=12/\z.2<=N.length/\(∀x∈N.take z.2,x<(z.1:Int))/\(∀y∈N.drop z.2,(z.1:Int)<=y)) (λz=>12-z.1) (λz=>[(11,.c (ag (z.1:Nat))),(9,.c (ag (z.2:Nat))),(4,.ptr 4 0),(5,.ptr 5 0),(6,.ptr 6 0),(7,.ptr 7 0)]) (λ_=>[(4,bH l),(5,bH Ll),(6,[.c (ag src),.c (ag B),.c (ag jd),.c (ag bU),.c (.sl 23 (fD ops))]),(7,[.c (ag code),.c (ag done),.c (ag gs),.c (ag au),.c (.sl 1 (cM N))])]) (λ_=>[]) [4,5,6,7] (0,0)
  ⟨bn,aeW _,λx D=>by simp at D,λy q=>by obtain⟨i,rfl,_⟩:=U y (by simpa using q);show(0:Int)<=i;omega⟩ ⟨.inl rfl,.inl rfl,.inl rfl,.inl rfl,.inl rfl,.inl rfl,trivial⟩ ⟨rfl,rfl,rfl,rfl,trivial⟩ trivial rfl (dI rfl (b8 _ _) (dI rfl (b8 _ _) rfl)) rfl ?_
 rintro⟨i,k⟩ ⟨H,M,W,K⟩ Y;simp only at H M W K Y;by_cases E:i<12
 ·have e1:decide ((i:Int)<12)=true:=aaX ai;have lj:Nat.blt i 12=true:=by rw[afP];omega
  have C:=ep (l:=l) (i:=i) zl ai ai;have u:=ep (l:=Ll) (i:=i) zL ai ai;rw[abU]at C u;have V:=I i E;by_cases c:(bq l i).is=(bq Ll i).is
  ·have hn:(i:Int) ∉ N:=(by intro h;obtain⟨j,e,_,_,h1,h2⟩:=U _ h;obtain rfl:i=j:=(by omega);omega)
   have S:=Y (i+1,k) ⟨by show i+1<=12;omega,M,λx D=>by have:=W x D;show x<((i+1:Nat):Int);omega,λy q=>by
    have h1:=K y q;have:y≠i:=λh=>hn (h▸afW q)
    show((i+1:Nat):Int)<=y;omega⟩ (by show 12-(i+1)<12-i;omega)
   clear Y U I V;generalize bq l i=a at *;generalize bq Ll i=A at *;obtain⟨is,bX,qC,⟨pT,pA⟩,⟨sT,sA⟩,cd,⟨k1,k2,k3,k4,k5,k6,k7⟩⟩:=a;obtain⟨Qd,Cn,nX,⟨pT',pA'⟩,⟨sT',sA'⟩,cd',⟨q1,q2,q3,q4,q5,q6,q7⟩⟩:=A;obtain⟨r1,T⟩:=ir C;obtain⟨r2,Q⟩:=ir u;have d1:=T 0 _ Z;have d2:=Q 0 _ Z;clear T Q;have e2:(is==Qd)=true:=by simpa using c
   repeat' (first|exact wq|refine wz ?_|(intro h;rw[h]))
   exact AK.again S ⟨.inl (dY (i:=i) ai),.inl Z,.inl Z,.inl Z,.inl Z,.inl Z,trivial⟩ ce trivial Z (dI Z (b8 _ _) (dI Z (b8 _ _) Z)) Z
  have hm:=V c;obtain⟨P,hn1,hn2⟩:=abv hp W K hm;have O:k<N.length:=(List.getElem?_eq_some_iff.1 P).1;obtain⟨j,e,_,_,h1,h2⟩:=U _ hm;obtain rfl:i=j:=by omega
  have hrow:=PE P;have S:=Y (i+1,k+1) ⟨by show i+1<=12;omega,O,λx D=>by have:=hn1 x D;show x<((i+1:Nat):Int);omega,λy q=>by have:=hn2 y q;show((i+1:Nat):Int)<=y;omega⟩ (by show 12-(i+1)<12-i;omega);have e3:decide ((k:Int)>=(((cM N).length:Nat):Int))=false:=aaY ai;have n3:(bif false then true else decide ((k:Int)>=(((cM N).length:Nat):Int)))=false:=e3;have e4:((i:Int) != (i:Int))=false:=by simp
  have n4:(bif false then true else((i:Int) != (i:Int)))=false:=e4;clear Y U I V hm e;generalize bq l i=a at *;generalize bq Ll i=A at *;obtain⟨is,bX,qC,⟨pT,pA⟩,⟨sT,sA⟩,cd,⟨k1,k2,k3,k4,k5,k6,k7⟩⟩:=a;obtain⟨Qd,Cn,nX,⟨pT',pA'⟩,⟨sT',sA'⟩,cd',⟨q1,q2,q3,q4,q5,q6,q7⟩⟩:=A;simp only at h1 h2;subst h1 h2;obtain⟨r1,T⟩:=ir C;obtain⟨r2,Q⟩:=ir u;have d1:=T 0 _ Z;have d2:=Q 0 _ Z;clear T Q
  repeat' (first|exact wq|refine wz ?_|(intro h;rw[h]))
  exact AK.again S ⟨.inl (dY (i:=i) ai),.inl (dY (i:=k) ai),.inl Z,.inl Z,.inl Z,.inl Z,trivial⟩ ce trivial Z (dI Z (b8 _ _) (dI Z (b8 _ _) Z)) Z
 obtain rfl:i=12:=by omega
 have e1:decide (((12:Nat):Int)<12)=false:=by decide
 have O:k=N.length:=by by_cases h:k<N.length;exfalso;have h1:=K N[k] (List.mem_drop_iff_getElem.2 ⟨0,ai,cc⟩);obtain⟨j,e,_,h3,_⟩:=U N[k] (ahi _);omega;omega
 have e5:((k:Int)==(((cM N).length:Nat):Int))=true:=by rw[ahD];omega
 clear Y U I
 repeat' (first|exact wq|refine wz ?_)
 exact uQ hf Z Z (aeM CV.bool e5)
def IQ(bs:List lN)(Y:∀b∈bs,qF b):af 5 [.sl 5 (bR bs)] (.bool true):=by
 have hq:=nC VK bs Y;have T:(Iq 40 mV bs).aS.length=12:=zd 40 oq Y;generalize Iq 40 mV bs=Ll at *;refine qn func5 call5 λβ hf=>?_
 repeat' (first|exact wq|refine wz ?_)
end Go.Proofs
