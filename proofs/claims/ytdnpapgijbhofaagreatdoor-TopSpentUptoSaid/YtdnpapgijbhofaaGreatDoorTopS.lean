/- The law TopSpent: -/
import Derived.Test.YtdnpapgijbhofaaGreatDoorTopQ
open Go.IntKind
open Go.Proofs.Tryz
set_option linter.defProp false
set_option linter.unusedVariables false
set_option linter.unusedSimpArgs false
set_option maxHeartbeats 0
set_option maxRecDepth 100000
namespace Go.Proofs
open Go.cw
def Km(o:wH)(r:List wH):EU (o::r)=o.oZ+EU r:=rfl
def HQ:∀(l:List wH),(∀o∈l,0<=o.oZ/\o.oZ<=4000000)->0<=EU l/\EU l<=4000000*l.length
 |[],_=>⟨afw _,afw _⟩
 |o::r,h=>by
  have h1:=h o cc;have h2:=HQ r λx D=>h x K0;rw[Km];simp only[aag]
  push_cast
  omega
attribute [local irreducible] AK ah aR bM cX cn bH cN gh dX.cq dX.hD wB wF eR
def Su(l:dX)(b:lN)(I:oY l)(hb:qF b)(hg:b.bU<=3000):af 17 [.agg (cN l),.agg (cN (gp l b).1),kP b,qD (gp l b).2] (.bool true):=by
 obtain⟨h1,h2⟩:=agn I hg hb;have u:=l7 I hb hg;generalize gp l b=x at *;obtain⟨Ll,⟨code,done,gs,au,N⟩⟩:=x;obtain⟨src,B,jd,bU,ops⟩:=b;simp only at h1 h2 u;have zl:=I.h12;have zL:=u.h12;have Ip:=rO ops;refine qn func17 call17 λβ hf=>?_
 repeat' (first|exact wq|refine wz ?_)
 refine AK.dN (α:=Nat) (λi=>i<=4) (λi=>4-i) (λi=>[(13,.c (ag (i:Nat))),(4,.ptr 4 0),(5,.ptr 5 0),(6,.ptr 6 0),(7,.ptr 7 0)]) (λ_=>[(4,bH l),(5,bH Ll),(6,[.c (ag src),.c (ag B),.c (ag jd),.c (ag bU),.c (.sl 23 (fD ops))]),(7,[.c (ag code),.c (ag done),.c (ag gs),.c (ag au),.c (.sl 1 (cM N))])]) (λ_=>[]) [4,5,6,7] 0
  bn ce ce  trivial Z (dI Z (b8 _ _) (dI Z (b8 _ _) Z)) Z ?_
 intro i hi Y;by_cases K:i<4
 ·have e1:decide ((i:Int)<4)=true:=aaX ai;have lj:Nat.blt i 12=true:=by rw[afP];omega
  have T:=ep (l:=l) (i:=i) zl ai ai;have V:=ep (l:=Ll) (i:=i) zL ai ai;rw[abU]at T V;have U:=h1 i K;have S:=Y (i+1) ai ai;clear Y h1 h2;generalize bq l i=a at *;generalize bq Ll i=A at *;obtain⟨is,bX,qC,⟨pT,pA⟩,⟨sT,sA⟩,cd,⟨k1,k2,k3,k4,k5,k6,k7⟩⟩:=a;obtain⟨Qd,W,nX,⟨J,G⟩,⟨E,D⟩,cd',⟨q1,q2,q3,q4,q5,q6,q7⟩⟩:=A;obtain⟨r1,Q⟩:=ir T;obtain⟨r2,P⟩:=ir V;have d1:=Q 1 _ Z;have d2:=P 1 _ Z;clear Q P;simp only at U;have n2:(bif ((i:Int) != src)then decide (W<bX)else false)=false:=by by_cases c:(i:Int)=src;have:((i:Int) != src)=false:=(by simpa using c);rw[this];rfl;rw[aaY (by have:=U c;omega)];cases((i:Int) != src)<;>rfl
  by_cases c:(i:Int)=src
  ·have e2:((i:Int) != src)=false:=(by simpa using c);have n3:(bif false then decide (W<bX)else false)=false:=rfl
   repeat' (first|exact wq|refine wz ?_|(intro h;rw[h]))
   exact AK.again S ⟨.inl (dY (i:=i) ai),.inl Z,.inl Z,.inl Z,.inl Z,trivial⟩ ce trivial Z (dI Z (b8 _ _) (dI Z (b8 _ _) Z)) Z
  have e2:((i:Int) != src)=true:=by simpa using c
  have e3:decide (W<bX)=false:=aaY (by have:=U c;omega);have n3:(bif true then decide (W<bX)else false)=false:=e3
  repeat' (first|exact wq|refine wz ?_|(intro h;rw[h]))
  exact AK.again S ⟨.inl (dY (i:=i) ai),.inl Z,.inl Z,.inl Z,.inl Z,trivial⟩ ce trivial Z (dI Z (b8 _ _) (dI Z (b8 _ _) Z)) Z
 obtain rfl:i=4:=by omega
 clear Y h1;have e1:decide (((4:Nat):Int)<4)=false:=by decide
 by_cases C:code≠0
 ·have e4:(code != 0)=true:=by simpa using C
  clear h2
  repeat' (first|exact wq|refine wz ?_)
 have e4:(code != 0)=false:=by simpa using C
 obtain⟨hs,WC,ho8,O,M⟩:=h2 (by simpa using C);obtain⟨s,rfl⟩:=afA hs.1;have lj:Nat.blt s 12=true:=by rw[afP];omega
 have T:=ep (l:=l) (i:=s) zl ai ai;have V:=ep (l:=Ll) (i:=s) zL ai ai;rw[abU]at T V;have FF:=I.bX _ (abz T);have Qp:=u.bX _ (abz V);generalize bq l s=a at *;generalize bq Ll s=A at *;obtain⟨is,bX,qC,⟨pT,pA⟩,⟨sT,sA⟩,cd,⟨k1,k2,k3,k4,k5,k6,k7⟩⟩:=a;obtain⟨Qd,W,nX,⟨J,G⟩,⟨E,D⟩,cd',⟨q1,q2,q3,q4,q5,q6,q7⟩⟩:=A;obtain⟨r1,Q⟩:=ir T;obtain⟨r2,P⟩:=ir V;have d1:=Q 1 _ Z;have d2:=P 1 _ Z;clear Q P;simp only at M FF Qp;have hbo:=HQ ops O;have hw:i64.wrap (bX-W)=bX-W:=iB ai ai;have n5:decide (i64.wrap (bX-W)<=jd+EU ops)=true:=by rw[hw];exact aaX M
 repeat' (first|exact wq|refine wz ?_)
 refine AK.dN (α:=Nat×Int) (λz=>z.1<=ops.length/\jd+EU ops=z.2+EU (ops.drop z.1)/\0<=z.2/\z.2<=4000000*(z.1+1)) (λz=>ops.length-z.1) (λz=>[(42,.c (ag (z.1:Nat))),(10,.c (ag z.2)),(40,.c (.sl 23 (fD ops))),(41,.c (ag ((fD ops).length:Nat))),(4,.ptr 4 0),(5,.ptr 5 0),(6,.ptr 6 0),(7,.ptr 7 0)]) (λ_=>[(4,bH l),(5,bH Ll),(6,[.c (ag s),.c (ag B),.c (ag jd),.c (ag bU),.c (.sl 23 (fD ops))]),(7,[.c (ag code),.c (ag done),.c (ag gs),.c (ag au),.c (.sl 1 (cM N))])]) (λ_=>[]) [4,5,6,7] (0,jd)
  ⟨aeW _,Z,WC.1,by simpa using WC.2⟩ ce ce  trivial Z (dI Z (b8 _ _) (dI Z (b8 _ _) Z)) Z ?_
 rintro⟨k,m⟩ ⟨U,H,q,Bm⟩ Y;simp only at U H q Bm Y;by_cases hk2:k<ops.length
 ·obtain⟨o,ho⟩:∃o,ops[k]?=some o:=⟨_,aeL hk2⟩;have hrow:=Aw ops k o ho;have e5:decide ((k:Int)<(((fD ops).length:Nat):Int))=true:=aaX ai;rw[dK ho,Km]at H;have hao:=O o (abz ho);have Up:i64.wrap (m+o.oZ)=m+o.oZ:=iB ai ai;have S:=Y (k+1,m+o.oZ) ⟨by show k+1<=ops.length;omega,by show _=m+o.oZ+EU (ops.drop (k+1));omega,by show 0<=m+o.oZ;omega,by show m+o.oZ<=4000000*(((k+1:Nat):Int)+1);push_cast;omega⟩ (by show ops.length-(k+1)<ops.length-k;omega);clear Y;obtain⟨kind,to,oZ,⟨a1,a2,a3,a4,a5⟩,⟨b1,b2,b3,b4,b5⟩,⟨c1,c2,c3,c4,c5⟩,⟨t1,t2,t3,t4,t5⟩⟩:=o;simp only at Up S
  repeat' (first|exact wq|refine wz ?_)
  exact AK.again S ⟨.inl (dY (i:=k) ai),.inl (aeM (λz=>some (AV.c (CV.int .i64 z))) Up),.inl Z,.inl Z,.inl Z,.inl Z,.inl Z,.inl Z,trivial⟩ ce trivial Z (dI Z (b8 _ _) (dI Z (b8 _ _) Z)) Z
 have e5:decide ((k:Int)<(((fD ops).length:Nat):Int))=false:=aaY ai;have hm:jd+EU ops=m:=by rw[H,afy ai];exact Int.add_zero _
 rw[hm]at n5;clear Y
 repeat' (first|exact wq|refine wz ?_)
 exact uQ hf Z Z (aeM CV.bool n5)
def G7(bs:List lN)(Y:∀b∈bs,qF b):af 4 [.sl 5 (bR bs)] (.bool true):=by
 have hq:=nC Su bs Y;have T:(Iq 40 mV bs).aS.length=12:=zd 40 oq Y;generalize Iq 40 mV bs=Ll at *;refine qn func4 call4 λβ hf=>?_
 repeat' (first|exact wq|refine wz ?_)
end Go.Proofs
