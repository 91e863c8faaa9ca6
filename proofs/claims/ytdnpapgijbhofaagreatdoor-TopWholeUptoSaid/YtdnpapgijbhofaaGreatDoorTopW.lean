/- The law TopWhole: -/
import Derived.Test.YtdnpapgijbhofaaGreatDoorTopE
open Go.IntKind
open Go.Proofs.Tryz
set_option linter.defProp false
set_option linter.unusedVariables false
set_option linter.unusedSimpArgs false
set_option maxHeartbeats 0
set_option maxRecDepth 100000
namespace Go.Proofs
open Go.cw
def Kn:∀(k:Nat)(w:Wk)(q:List w9),Ac w->(w.made.length:Int)<=w.done->(∀x∈q,xH x)->(allM k w q).1=0->w.done+(if q=[]then 0 else 1)<=(allM k w q).2.done
 |k,w,[],M,hm,hq,h=>by rw[allM_nil];simp
 |0,w,x::q,M,hm,hq,h=>by simp[allM]at h
 |k+1,w,x::q,M,hm,hq,h=>by
  have h1:=yX M hm (hq x cc);unfold allM at h ⊢;split at h;simp at h;rename_i c;rw[if_neg c];split at h;rename_i K;exact absurd h K;rename_i K;rw[if_neg K];have h2:Ac {(gC w x).2 with done:=(gC w x).2.done+1}:=⟨h1.ok.xh,h1.ok.bU,h1.ok.au,IF,Oo⟩
  have I:=Kn k _ (q++(gC w x).1.1) h2 h1.ok.MF (λy U=>by
   rcases List.mem_append.1 U with U|U
   exact hq y (by simp[U])
   exact h1.items y U) h
  have Y:(gC w x).2.done+1+(if q++(gC w x).1.1=[]then 0 else 1)<=(allM k {(gC w x).2 with done:=(gC w x).2.done+1} (q++(gC w x).1.1)).2.done:=I;have V:=h1.done;rw[if_neg cc];split at Y<;>omega
def Ko{src:Int}:∀(l:List wH)(w:Wk),Ac w->(w.made.length:Int)<=w.done->(∀o∈l,vE o)->(lZ src w l).1=0->w.done+l.length<=(lZ src w l).2.done
 |[],w,hw,hm,hl,h=>by show w.done+((0:Nat):Int)<=w.done;omega
 |o::r,w,hw,hm,hl,h=>by
  have D:∀x∈[(⟨src,some o,lC⟩:w9)],xH x:=λx D=>by rw[aga]at D;subst D;exact hl o cc
  have h1:=zb 25 w [⟨src,some o,lC⟩] hw hm D;unfold lZ at h ⊢;split at h;rename_i c;exact absurd h c;rename_i c;rw[if_neg c];simp only[ne_eq,afF]at c;have h2:=Ko r _ h1.ok (h1.made c) (λx D=>hl x K0) h;have K:=Kn 25 w [⟨src,some o,lC⟩] hw hm D c;rw[if_neg cc]at K;simp only[aag]
  push_cast
  omega
def whole{l:dX}{b:lN}(I:oY l)(G:b.bU<=3000)(U:∀o∈b.ops,vE o):((gp l b).2.code=0->(b.ops.length:Int)<=(gp l b).2.done/\(gp l b).2.done<=24) /\
  ((gp l b).2.code≠0->(∃c,c≠0/\gp l b=(l,⟨c,0,0,0,[]⟩))\/(uw l b=0/\∃c g,c≠0/\gp l b=(sQ l b,⟨c,0,g,0,[]⟩))):=by
 unfold gp;split;rename_i c;exact⟨λh=>absurd h c,λ_ => .inl ⟨_,c,Z⟩⟩;rename_i c;simp only[ne_eq,afF]at c;split;rename_i K;exact⟨λh=>absurd h K,λ_ => .inr ⟨c,_,_,K,Z⟩⟩;rename_i K;simp only[ne_eq,afF]at K;have h1:=Ko b.ops (om l b) (vF I c G) (afw _) U K;have h2:=(KW b.src b.ops _ (vF I c G) (afw _) U).ok.done;have e:(om l b).done=0:=rfl;exact⟨λ_=>⟨by show(b.ops.length:Int)<=(lZ b.src (om l b) b.ops).2.done;omega,h2.2⟩,λh=>absurd Z h⟩
def Zi{l:L Acc}{i:Nat}{a:Acc}(h:l[i]?=some a):l.set i a=l:=by obtain⟨G,rfl⟩:=List.getElem?_eq_some_iff.1 h;simp
def Sw{l:dX}{b:lN}(I:oY l)(h:uw l b=0){s:Nat}(A:b.src=s):∃(f q ct:Int) (J H:dX) (r1 r2:L AV),(J.aS.length=12/\H.aS.length=12)/\dV 180 (bH (sQ l b))=some [.c (ag f)]/\bG 180 [.c (ag (i64.wrap (f-b.jd)))] (bH (sQ l b))=some (bH J) /\
  dV (0+s*15+1) (bH J)=some (.c (ag q)::r1)/\bG (0+s*15+1) [.c (ag (i64.wrap (q+b.jd)))] (bH J)=some (bH H)/\dV (0+s*15+2) (bH H)=some (.c (ag ct)::r2)/\bG (0+s*15+2) [.c (ag (i64.wrap (ct-1)))] (bH H)=some (bH l):=by
 obtain⟨_,hs4,⟨D,_⟩,⟨ZB,_⟩,_,hfb⟩:=qE h;have T:=I.h12;have z:=(BB I h).h12;have WC:=(ji.1 I.good).1;have E:=ep (l:=l) (i:=s) T ai ai;rw[abU]at E;have QD:=I.bX _ (abz E);have C:0<=(bq l s).cnt:=by have h:=I.get E;unfold tQ FK at h;simp at h;omega
 have e0:sQ l b=⟨l.aS.set s {bq l s with cnt:=(bq l s).cnt+1,bX:=(bq l s).bX-b.jd},l.eG+b.jd⟩:=by unfold sQ;rw[A,abU]
 rw[A]at hfb D;rw[e0]at z ⊢;unfold bJ at D;generalize bq l s=a at *;generalize b.jd=jd at *;have V:s<l.aS.length:=by omega
 obtain⟨S,bX,cnt,⟨G,U⟩,⟨B,K⟩,cd,⟨u,M,O,Q,N,Y,W⟩⟩:=a;simp only at QD C hfb D z ⊢;have w1:i64.wrap (l.eG+jd-jd)=l.eG:=by rw[iB ai ai];omega
 have w2:i64.wrap (bX-jd+jd)=bX:=by rw[iB ai ai];omega
 have w3:i64.wrap (cnt+1-1)=cnt:=by rw[iB ai ai];omega
 have p0:=WB (l:=⟨l.aS.set s ⟨S,bX-jd,cnt+1,⟨G,U⟩,⟨B,K⟩,cd,⟨u,M,O,Q,N,Y,W⟩⟩,l.eG+jd⟩) z (i64.wrap (l.eG+jd-jd));have V9:(l.hD s ⟨S,bX-jd,cnt+1,⟨G,U⟩,⟨B,K⟩,cd,⟨u,M,O,Q,N,Y,W⟩⟩).aS[s]?=some ⟨S,bX-jd,cnt+1,⟨G,U⟩,⟨B,K⟩,cd,⟨u,M,O,Q,N,Y,W⟩⟩:=by show(l.aS.set s _)[s]?=_;rw[ahb V]
 have P:(l.hD s ⟨S,bX,cnt+1,⟨G,U⟩,⟨B,K⟩,cd,⟨u,M,O,Q,N,Y,W⟩⟩).aS[s]?=some ⟨S,bX,cnt+1,⟨G,U⟩,⟨B,K⟩,cd,⟨u,M,O,Q,N,Y,W⟩⟩:=by show(l.aS.set s _)[s]?=_;rw[ahb V]
 obtain⟨q1,Bj⟩:=ir V9;obtain⟨q2,CG⟩:=ir P;have p1:=Ax V9 (b:=⟨S,bX,cnt+1,⟨G,U⟩,⟨B,K⟩,cd,⟨u,M,O,Q,N,Y,W⟩⟩) (k:=1) (cs:=[.c (ag bX)]) Z;have p2:=Ax P (b:=⟨S,bX,cnt,⟨G,U⟩,⟨B,K⟩,cd,⟨u,M,O,Q,N,Y,W⟩⟩) (k:=2) (cs:=[.c (ag cnt)]) Z;have e1:(l.hD s ⟨S,bX-jd,cnt+1,⟨G,U⟩,⟨B,K⟩,cd,⟨u,M,O,Q,N,Y,W⟩⟩).hD s ⟨S,bX,cnt+1,⟨G,U⟩,⟨B,K⟩,cd,⟨u,M,O,Q,N,Y,W⟩⟩=l.hD s ⟨S,bX,cnt+1,⟨G,U⟩,⟨B,K⟩,cd,⟨u,M,O,Q,N,Y,W⟩⟩:=by unfold dX.hD;dsimp only;rw[List.set_set]
 have e2:(l.hD s ⟨S,bX,cnt+1,⟨G,U⟩,⟨B,K⟩,cd,⟨u,M,O,Q,N,Y,W⟩⟩).hD s ⟨S,bX,cnt,⟨G,U⟩,⟨B,K⟩,cd,⟨u,M,O,Q,N,Y,W⟩⟩=l:=by unfold dX.hD;dsimp only;rw[List.set_set,Zi E]
 rw[e1]at p1;rw[e2]at p2;refine⟨l.eG+jd,bX-jd,cnt+1,l.hD s ⟨S,bX-jd,cnt+1,⟨G,U⟩,⟨B,K⟩,cd,⟨u,M,O,Q,N,Y,W⟩⟩,l.hD s ⟨S,bX,cnt+1,⟨G,U⟩,⟨B,K⟩,cd,⟨u,M,O,Q,N,Y,W⟩⟩,_,_,⟨qj T,qj T⟩,uy z,?_,Bj 1 _ Z,by rw[w2];exact p1,CG 2 _ Z,by rw[w3];exact p2⟩;rw[p0,w1];rfl
attribute [local irreducible] AK ah aR bM cX cn bH cN gh dX.cq dX.hD wB wF eR
def HS{a:Acc}{jd:Int}(C:KI a):af 56 [.agg (tV a),.agg (tV {a with cnt:=a.cnt+1,bX:=a.bX-jd})] (.bool false):=by
 have h1:=qN (a:=a) (b:={a with cnt:=a.cnt+1,bX:=a.bX-jd}) ⟨rfl,rfl,rfl,rfl⟩ C;obtain⟨S,bX,cnt,⟨G,U⟩,⟨B,K⟩,code,⟨u,M,O,Q,q,Y,V⟩⟩:=a;simp only at h1 ⊢;by_cases c:jd=0
 ·have E:(bX==bX-jd)=true:=by rw[ahD];omega
  have W:(bif true then(bX==bX-jd)else false)=true:=E;have N:(cnt==cnt+1)=false:=by rw[agr];omega
  have T:(bif true then(cnt==cnt+1)else false)=false:=N;refine qn func56 call56 λβ hf=>?_
  repeat' (first|exact wq|refine wz ?_|(intro h;rw[h]))
 have E:(bX==bX-jd)=false:=by rw[agr];omega
 have W:(bif true then(bX==bX-jd)else false)=false:=E;refine qn func56 call56 λβ hf=>?_
 repeat' (first|exact wq|refine wz ?_|(intro h;rw[h]))
def HT{l:dX}{b:lN}(I:oY l)(h:uw l b=0):af 25 [.agg (cN l),.agg (cN (sQ l b))] (.bool false):=by
 have V:=(qE h).2.1;obtain⟨s,C⟩:=afA V.1;have M:∀i:Nat,i<12->bq (sQ l b) i=if(i:Int)=b.src then {bq l i with cnt:=(bq l i).cnt+1,bX:=(bq l i).bX-b.jd}else bq l i:=λi O=>zP I h O
 have N:=I.h12;have K:=(BB I h).h12;generalize sQ l b=Ll at *;generalize b.jd=jd at *;rw[C]at M V;refine qn func25 call25 λβ hf=>?_
 repeat' (first|exact wq|refine wz ?_|(intro h;rw[h]))
 refine AK.dN (α:=Nat) (λi=>i<=s) (λi=>s-i) (λi=>[(6,.c (ag (i:Nat))),(2,.ptr 2 0),(3,.ptr 3 0)]) (λ_=>[(2,bH l),(3,bH Ll)]) (λ_=>[]) [2,3] 0
  (aeW _) ce ⟨Z,Z,trivial⟩ trivial Z (dI Z (b8 _ _) (dI Z (b8 _ _) Z)) Z ?_
 intro i O Q;have e1:decide ((i:Int)<12)=true:=aaX ai;have lj:Nat.blt i 12=true:=by rw[afP];omega
 have S:=ep (l:=l) (i:=i) N ai ai;have Y:=ep (l:=Ll) (i:=i) K ai ai;rw[abU]at S Y;have u:=I.size _ (abz S);have W:=M i ai;clear M;by_cases c:i<s
 ·rw[if_neg ai]at W;have hq:=Co (bq l i) u;have P:=Q (i+1) ai ai;clear Q;rw[W]at Y;clear W;generalize bq l i=a at *;obtain⟨J,bX,H,⟨G,E⟩,⟨B,D⟩,cd,⟨A,q,k3,k4,k5,k6,k7⟩⟩:=a;obtain⟨r1,U⟩:=ir S;obtain⟨r2,T⟩:=ir Y;have d1:=U 0 _ Z;have d2:=T 0 _ Z;clear U T
  repeat' (first|exact wq|refine wz ?_|(intro h;rw[h]))
  exact AK.again P ⟨.inl (dY (i:=i) ai),.inl Z,.inl Z,trivial⟩ ⟨Z,Z,trivial⟩ trivial Z (dI Z (b8 _ _) (dI Z (b8 _ _) Z)) Z
 rw[if_pos ai]at W;have hq:=HS (jd:=jd) u;clear Q;rw[W]at Y;clear W;generalize bq l i=a at *;obtain⟨J,bX,H,⟨G,E⟩,⟨B,D⟩,cd,⟨A,q,k3,k4,k5,k6,k7⟩⟩:=a;simp only at Y hq;obtain⟨r1,U⟩:=ir S;obtain⟨r2,T⟩:=ir Y;have d1:=U 0 _ Z;have d2:=T 0 _ Z;clear U T
 repeat' (first|exact wq|refine wz ?_|(intro h;rw[h]))
def Sx(l:dX)(b:lN)(I:oY l)(U:qF b)(G:b.bU<=3000):af 26 [.agg (cN l),.agg (cN (gp l b).1),kP b,qD (gp l b).2] (.bool true):=by
 obtain⟨h1,h2⟩:=whole I G U;have B:=I.h12;by_cases c:(gp l b).2.code=0
 ·have P:=h1 c;have Q:=(l7 I U G).h12;clear h1 h2;generalize gp l b=x at *;obtain⟨Ll,⟨code,done,A,u,M⟩⟩:=x;obtain⟨src,S,jd,V,ops⟩:=b;simp only at P c Q;have K:=rO ops;subst c;have E:decide (done>=(((fD ops).length:Nat):Int))=true:=aaX (by rw[K];exact P.1);have J:(bif true then decide (done<=24)else false)=true:=aaX P.2;refine qn func26 call26 λβ hf=>?_
  repeat' (first|exact wq|refine wz ?_|(intro h;rw[h]))
  exact uQ hf Z Z (aeM CV.bool J)
 rcases h2 c with ⟨e,O,T⟩|⟨q,e,g,O,T⟩
 ·rw[T];clear h1 h2 c T;have Y:=q8 I;obtain⟨src,S,jd,V,ops⟩:=b;have E:(e==0)=false:=by simpa using O
  have H:((((cM []).length:Nat):Int) != 0)=false:=rfl;have D:(bif false then true else((((cM []).length:Nat):Int) != 0))=false:=rfl;refine qn func26 call26 λβ hf=>?_
  repeat' (first|exact wq|refine wz ?_|refine ah.xS kn Z Z Z (gK Z (gK Z Z)) Y ?_)
 rw[T];clear h1 h2 c T;have Y:=q8 I;have N:=HT I q;have W:=(qE q).2.1;obtain⟨s,C⟩:=afA W.1;obtain⟨f,bl,ct,L1,L2,r1,r2,⟨z1,z2⟩,d0,p0,d1,p1,d2,p2⟩:=Sw I q C;have Q:=(BB I q).h12;generalize sQ l b=Ll at *;obtain⟨src,S,jd,V,ops⟩:=b;simp only at C p0 p1 W;subst C;have lj:Nat.blt s 12=true:=by rw[afP];omega
 have E:(e==0)=false:=by simpa using O
 have H:((((cM []).length:Nat):Int) != 0)=false:=rfl;have D:(bif false then true else((((cM []).length:Nat):Int) != 0))=false:=rfl;clear q;refine qn func26 call26 λβ hf=>?_
 repeat' (first|exact wq|refine wz ?_|refine ah.xS kn Z Z Z (gK Z (gK Z Z)) Y ?_|refine ah.xS kn Z Z Z (gK Z (gK Z Z)) N ?_)
def G8(bs:List lN)(Y:∀b∈bs,qF b):af 8 [.sl 5 (bR bs)] (.bool true):=by
 have hq:=nC Sx bs Y;have T:(Iq 40 mV bs).aS.length=12:=zd 40 oq Y;generalize Iq 40 mV bs=Ll at *;refine qn func8 call8 λβ hf=>?_
 repeat' (first|exact wq|refine wz ?_)
end Go.Proofs
