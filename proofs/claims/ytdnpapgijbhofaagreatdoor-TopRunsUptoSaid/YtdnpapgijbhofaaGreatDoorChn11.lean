/- The chain's laws: -/
import Derived.Test.YtdnpapgijbhofaaGreatDoorChn10
open Go.Proofs.Tryz
set_option linter.defProp false
set_option linter.unusedVariables false
set_option linter.unusedSimpArgs false
set_option maxHeartbeats 0
set_option maxRecDepth 100000
namespace Go.Proofs
open Go.cw
def oq:oY mV:=⟨Z,by decide +kernel,λa T=>by
 have:a=tT\/∃b,a=KN b:=by simp only[mV,afp,List.not_mem_nil,or_false]at T;rcases T with rfl|rfl|rfl|rfl|rfl|rfl|rfl|rfl|rfl|rfl|rfl|rfl<;>first|exact .inl Z|exact .inr ⟨_,Z⟩
 rcases this with rfl|⟨b,rfl⟩
 exact⟨bn,bn,bn⟩
 exact⟨by show bf lJ+bf lJ<=_;decide,by show aO []<=_;decide,by show aH lC<=_;decide⟩⟩
def M8:lN:=⟨0,1,3,0,[⟨1,2,7,.mk 2 0 20 [] [],.mk 0 0 0 [] [],.mk 0 0 0 [] [],.mk 0 0 0 [] []⟩]⟩
def ahI:((gp mV M8).2.code=0/\(gp mV M8).2.done=1)/\(bq (gp mV M8).1 2).bX=1000007/\(gp mV M8).1.eG=3:=by decide +kernel
def qF(b:lN):Prop:=∀o∈b.ops,vE o
def S0:qF M8:=by intro o T;simp only[M8,aga]at T;subst T;exact⟨bn,bn,bn,bn⟩
def nY(b:lN):lN:={b with bU:=if 3000<b.bU then 3000 else b.bU}
def Iq:Nat->dX->List lN->dX
 |0,l,_=>l
 |_+1,l,[]=>l
 |n+1,l,b::r=>Iq n (gp l (nY b)).1 r
def bR:List lN->L CV
 |[]=>[]
 |b::l=>kP b::bR l
def qk:∀l:List lN,(bR l).length=l.length
 |[]=>rfl
 |x::l=>by simp only[bR,aag,qk l]
def xN:∀(l:List lN)(k:Nat)(o:lN),l[k]?=some o->(bR l)[k]?=some (kP o)
 |[],k,o,h=>by simp at h
 |x::l,0,o,h=>by simp at h;subst h;rfl
 |x::l,k+1,o,h=>by simp only[ahm]at h;exact xN l k o h
def E0{b:lN}(h:qF b):qF (nY b)/\(nY b).bU<=3000:=⟨h,by show(if 3000<b.bU then(3000:Int)else b.bU)<=3000;split<;>omega⟩
def l7{l:dX}(I:oY l){b:lN}(U:qF b)(G:b.bU<=3000):oY (gp l b).1:=(S3 I G U).1
def WD:∀(n:Nat){l:dX}{bs:List lN},oY l->(∀b∈bs,qF b)->oY (Iq n l bs)
 |0,l,bs,h,_=>h
 |n+1,l,[],h,_=>h
 |n+1,l,b::r,h,hb=>WD n (l7 h (E0 (hb b cc)).1 (E0 (hb b cc)).2) λx D=>hb x K0
def zd(n:Nat){l:dX}{bs:List lN}(h:oY l)(U:∀b∈bs,qF b):(Iq n l bs).aS.length=12:=(WD n h U).h12
attribute [local irreducible] AK ah aR bM cX cn bH cN gh dX.cq dX.hD wB wF eR
def DM:af 27 [] (.bool true):=by
 have B:=CH;have hq:=sZ oq M8 bn S0;have h1:=l7 oq S0 bn;obtain⟨⟨h2,K⟩,h4,h5⟩:=ahI;generalize gp mV M8=x at *;generalize mV=L0 at *;obtain⟨Ll,⟨code,done,U,Q,N⟩⟩:=x;simp only at h1 h2 K h4 h5 hq;subst h2 K;have T:=h1.h12;have W:=ep (l:=Ll) (i:=2) T bn bn;generalize bq Ll 2=a at *;obtain⟨P,bX,S,⟨G,O⟩,⟨H,I⟩,cd,⟨u,M,J,E,q,D,C⟩⟩:=a;simp only at h4;subst h4;obtain⟨A,Y⟩:=ir (i:=2) W;have d1:=Y 1 _ Z;clear Y;have V:=uy T;rw[h5]at V;have lj:Nat.blt 2 12=true:=rfl;refine qn func27 call27 λβ hf=>?_
 repeat' (first|exact wq|refine wz ?_)
def wp{p:Prop}(h:p:=by exact uQ hf (iu Z Z Z Z (eA (by assumption) Z Z) Z) (FL _ Z) Z):p:=h
def nC{W:FuncId}(P:∀(l:dX)(b:lN),oY l->qF b->b.bU<=3000->af W [.agg (cN l),.agg (cN (gp l b).1),kP b,qD (gp l b).2] (.bool true))(bs:List lN)(u:∀b∈bs,qF b) :
  af 15 [.sl 5 (bR bs),.sU W []] (.eF [.agg (cN (Iq 40 mV bs)),.bool true]):=by
 have hn:=CH;have Qk:=DM;have hok:=oq;obtain⟨R,hR⟩:∃R,R=Iq 40 mV bs:=⟨_,rfl⟩;rw[<- hR];generalize mV=L0 at *;have q:=hok.h12;refine qn func15 call15 λβ hf=>?_
 repeat' (first|exact wp|refine wz ?_)
 refine AK.fY [(4,4),(6,6)] [] (env':=[(0,.c (.sl 5 (bR bs))),(1,.c (.sU W [])),(4,.ptr 4 0),(6,.ptr 6 0),(7,.c (ag (0:Nat)))]) (bs':=[(4,List.replicate 181 .any),(6,bH L0)]) (ts':=[]) (us':=[4,6])
  ce  ⟨⟨_,_,Z,Z,iT Z Z⟩,⟨_,_,Z,Z,nO⟩,trivial⟩ Z ?_
 refine AK.dN (α:=Nat×dX) (λz=>oY z.2/\z.1<=bs.length/\z.1<=40/\R=Iq (40-z.1) z.2 (bs.drop z.1)) (λz=>bs.length-z.1)
  (λz=>[(0,.c (.sl 5 (bR bs))),(1,.c (.sU W [])),(4,.ptr 4 0),(6,.ptr 6 0),(7,.c (ag (z.1:Nat)))]) (λz=>[(4,List.replicate 181 .any),(6,bH z.2)]) (λ_=>[]) [4,6] (0,L0)
  ⟨hok,aeW _,aeW _,hR⟩ ce ⟨Z,Z,trivial⟩ trivial Z (dI Z Z (dI Z (b8 _ _) Z)) Z ?_
 rintro⟨k,l⟩ ⟨I,hk,O,U⟩ ih;simp only at I hk O U ih;have zl:=I.h12;have Ip:=qk bs;by_cases N:k<bs.length/\k<40;rotate_left
 ·have M:R=l:=by
   rw[U];by_cases h:k<40
   ·rw[afy ai];cases 40-k<;>rfl
   rw[show 40-k=0 by omega];rfl
  subst M;clear ih;have T:(bif decide ((k:Int)<(((bR bs).length:Nat):Int))then decide ((k:Int)<40)else false)=false:=by rw[Ip];by_cases h:k<bs.length;rw[aaX ai,aaY ai];rfl;rw[aaY ai];rfl
  by_cases h:k<bs.length
  ·have E:decide ((k:Int)<(((bR bs).length:Nat):Int))=true:=aaX ai;rw[E]at T
   repeat' (first|exact wp|refine wz ?_|(intro h;rw[h]))
  have E:decide ((k:Int)<(((bR bs).length:Nat):Int))=false:=aaY ai;rw[E]at T
  repeat' (first|exact wp|refine wz ?_|(intro h;rw[h]))
 obtain⟨b,K⟩:∃o,bs[k]?=some o:=⟨_,aeL N.1⟩;rw[dK K,show 40-k=(40-(k+1))+1 by omega]at U;simp only[Iq]at U;have J:=u b (abz K);obtain⟨H,G⟩:=E0 J;have hq:=sZ I (nY b) G H;have Q:=l7 I H G;have Y:=P l (nY b) I H G;have C:=xN bs k b K;have E:decide ((k:Int)<(((bR bs).length:Nat):Int))=true:=aaX ai;have T:(bif decide ((k:Int)<(((bR bs).length:Nat):Int))then decide ((k:Int)<40)else false)=true:=by rw[E,aaX ai];rfl
 rw[E]at T;obtain⟨x,D⟩:∃x,x=nY b:=⟨_,rfl⟩;rw[<- D]at hq Q Y U;generalize gp l x=y at *;obtain⟨Ll,⟨code,done,gs,au,A⟩⟩:=y;simp only at hq Q Y U;have zL:=Q.h12;have S:=ih (k+1,Ll) ⟨Q,by show k+1<=bs.length;omega,by show k+1<=40;omega,U⟩ (by show bs.length-(k+1)<bs.length-k;omega);clear ih;obtain⟨src,B,jd,V,ops⟩:=b;by_cases c4:3000<V
 ·have e4:decide (V>3000)=true:=aaX c4;obtain rfl:x=⟨src,B,jd,3000,ops⟩:=by rw[D];unfold nY;dsimp only;rw[if_pos c4]
  repeat' (first|exact wp|refine wz ?_|refine ah.M9 kn Z Z Z Z (gK Z (gK Z Z)) Y ?_|refine ah.store hX kn Z Z Z Z Z Z Z Z (jq ek Z) (gL ek (jC ek)) Z ?_|(intro h;rw[h]))
  exact aeu
 have e4:decide (V>3000)=false:=aaY c4;obtain rfl:x=⟨src,B,jd,V,ops⟩:=by rw[D];unfold nY;dsimp only;rw[if_neg c4]
 repeat' (first|exact wp|refine wz ?_|refine ah.M9 kn Z Z Z Z (gK Z (gK Z Z)) Y ?_|refine ah.store hX kn Z Z Z Z Z Z Z Z (jq ek Z) (gL ek (jC ek)) Z ?_|(intro h;rw[h]))
 exact aeu
end Go.Proofs
