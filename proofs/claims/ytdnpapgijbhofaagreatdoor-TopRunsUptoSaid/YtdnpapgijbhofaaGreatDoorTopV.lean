/- Package chain: -/
import Derived.Test.YtdnpapgijbhofaaGreatDoorTopE
open Go.Proofs.Tryz
set_option linter.defProp false
set_option linter.unusedVariables false
set_option linter.unusedSimpArgs false
set_option maxHeartbeats 0
set_option maxRecDepth 100000
namespace Go.Proofs
open Go.cw
def runM:dX->List lN->dX
 |l,[]=>l
 |l,b::r=>runM (gp l b).1 r
def I5:dX->List lN->L P9
 |_,[]=>[]
 |l,b::r=>(gp l b).2::I5 (gp l b).1 r
def iO:L P9->L CV
 |[]=>[]
 |r::l=>qD r::iO l
def El:∀(a b:L P9),iO (a++b)=iO a++iO b
 |[],b=>rfl
 |x::a,b=>by simp only[aeN,iO,El a b]
def yL:∀l:L P9,(iO l).length=l.length
 |[]=>rfl
 |x::l=>by simp only[iO,aag,yL l]
def PJ:∀(bs:List lN)(l:dX),(I5 l bs).length=bs.length
 |[],_=>rfl
 |b::r,l=>by simp only[I5,aag,PJ r]
def Ue:∀(bs:List lN){l:dX},oY l->(∀b∈bs,qF b/\b.bU<=3000)->oY (runM l bs)
 |[],l,h,_=>h
 |b::r,l,h,hb=>Ue r (l7 h (hb b cc).1 (hb b cc).2) λx D=>hb x K0
def PK{X:Ctx}{bs:L (Nat×L AV)}{env:Env}{t ty W P:Nat}{i:TI}{Y off:Nat}{cells r:L AV}{v V a2:AV}(U:X.ti ty=some i)(D:aG X env (.tmp t)=some (.ptr Y off))(q:aq Y bs=some cells)(T:dV off cells=some r)(N:lO i r=some v)
  (h1:aq W env=some V)(h2:aq P env=some a2):kQ X bs env [.cell t ty,.tmp W,.tmp P]=some (.eF [v,V,a2]):=by
 have C:gv X bs (aG X env) (.load ty (.tmp t))=some v:=by simp only[gv,U,D,q,T,N]
 simp only[kQ,qT,C,h1,h2]
def Sv(l:dX){v w:AV}{c d:CV}(h:close v=some c)(h2:close w=some d):close (.eF [.agg (bH l),v,w])=some (.eF [.agg (cN l),c,d]):=by simp only[close,oh,y8 l,h,h2];rw[show oh (bH l)=some (cN l)from ux _]
attribute [local irreducible] AK ah aR bM cX cn bH cN gh dX.cq dX.hD wB wF eR
def VP(bs:List lN)(H:∀b∈bs,qF b/\b.bU<=3000)(B:bs.length<=40):af 28 [.sl 5 (bR bs)] (.eF [.agg (cN (runM mV bs)),.sl 5 (iO (I5 mV bs)),ag 0]):=by
 have hn:=CH;have hok:=oq;obtain⟨R,hR⟩:∃R,R=runM mV bs:=⟨_,rfl⟩;obtain⟨Q,J⟩:∃Q,Q=I5 mV bs:=⟨_,rfl⟩;rw[<- hR,<- J];generalize mV=L0 at *;have A:=hok.h12;have Ip:=qk bs;have e0:decide ((((bR bs).length:Nat):Int)>200)=false:=aaY ai;refine qn func28 call28 λβ hf=>?_
 repeat' (first|exact wq|refine wz ?_)
 refine AK.fY [(2,2),(5,5)] [(6000,(0,none))] (env':=[(15,.c (.sl 5 (bR bs))),(16,.c (ag ((bR bs).length:Nat))),(17,.c (ag (0:Nat))),(2,.ptr 2 0),(5,.ptr 5 0),(6,.own (.tok 6000 0) 5 (iO []))]) (bs':=[(2,List.replicate 181 .any),(5,bH L0)]) (ts':=[(6000,0)]) (us':=[2,5,6000])
  ce  ⟨⟨_,_,Z,Z,iT Z Z⟩,⟨_,_,Z,Z,nO⟩,trivial⟩ Z ?_
 refine AK.dN (α:=Nat×dX×L P9) (λz=>oY z.2.1/\z.1<=bs.length/\z.2.2.length=z.1/\R=runM z.2.1 (bs.drop z.1)/\Q=z.2.2++I5 z.2.1 (bs.drop z.1)) (λz=>bs.length-z.1)
  (λz=>[(15,.c (.sl 5 (bR bs))),(16,.c (ag ((bR bs).length:Nat))),(17,.c (ag (z.1:Nat))),(2,.ptr 2 0),(5,.ptr 5 0),(6,.own (.tok 6000 0) 5 (iO z.2.2))]) (λz=>[(2,List.replicate 181 .any),(5,bH z.2.1)]) (λ_=>[(6000,0)]) [2,5,6000] (0,L0,[])
  ⟨hok,aeW _,Z,hR,J⟩ ce ⟨Z,Z,trivial⟩ ⟨Z,trivial⟩ Z (dI Z Z (dI Z (b8 _ _) Z)) Z ?_
 rintro⟨k,l,q⟩ ⟨I,hk,W,U,Y⟩ ih;simp only at I hk W U Y ih;have zl:=I.h12;have zq:=yL q;by_cases E:k<bs.length;rotate_left
 ·rw[afy ai]at U Y;simp only[runM,I5,aeO]at U Y;subst U Y;clear ih;have e1:decide ((k:Int)<(((bR bs).length:Nat):Int))=false:=aaY ai
  repeat' (first|exact uQ hf (PK Z Z Z Z (eA ek Z Z) Z Z) (Sv _ Z Z) Z|refine wz ?_)
 obtain⟨b,S⟩:∃o,bs[k]?=some o:=⟨_,aeL E⟩;rw[dK S]at U Y;simp only[runM,I5]at U Y;obtain⟨V,T⟩:=H b (abz S);have hq:=sZ I b T V;have P:=l7 I V T;have D:=xN bs k b S;have e1:decide ((k:Int)<(((bR bs).length:Nat):Int))=true:=aaX ai;generalize gp l b=y at *;obtain⟨Ll,r⟩:=y;simp only at hq P U Y;have zL:=P.h12;have O:=ih (k+1,Ll,q++[r]) ⟨P,by show k+1<=bs.length;omega,by simp[W],U,adk⟩ (by show bs.length-(k+1)<bs.length-k;omega);clear ih;have M:iO q++[qD r]=iO (q++[r]):=(El q [r]).symm;have u:((iO q).length+1)*56<=140737488355328:=by omega
 obtain⟨code,done,C,G,N⟩:=r;obtain⟨src,cnt,jd,bU,ops⟩:=b;have K:iO q++[CV.agg [ag code,ag done,ag C,ag G,.sl 1 (cM N)]]=iO (q++[P9.mk code done C G N]):=M
 repeat' (first|exact wq|refine wz ?_|refine ah.store hX kn Z Z Z Z Z Z Z (js _) (jq ek Z) (gL ek (jC ek)) Z ?_|refine ah.buildSlice hX kn Z Z Z Z Z Z Z Z Z ?_|(refine uA Z ?_ ?_<;>(try (show(_:Nat)*_<=_;dsimp only))))
 exact u;refine AK.fY [(2,2),(5,5)] [(6000,(0,some 6000))] (env':=[(15,.c (.sl 5 (bR bs))),(16,.c (ag ((bR bs).length:Nat))),(17,.c (ag ((k+1:Nat):Int))),(2,.ptr 2 0),(5,.ptr 5 0),(6,.own (.tok 6000 0) 5 (iO (q++[P9.mk code done C G N])))]) (bs':=[(2,List.replicate 181 .any),(5,bH Ll)]) (ts':=[(6000,0)]) (us':=[2,5,6000])
  ⟨⟨_,Z,.inl Z⟩,⟨_,Z,.inl Z⟩,⟨_,Z,.inl (Option.some.inj (dY (i:=k) ai))⟩,⟨_,Z,⟨_,Z,Z⟩⟩,⟨_,Z,⟨_,Z,Z⟩⟩,⟨_,Z,⟨_,Z,.inr ⟨_,_,Z,Z,aeM (AV.own (.tok 6000 1) 5) K⟩⟩⟩,trivial⟩ ⟨⟨_,_,Z,Z,iT Z Z⟩,⟨_,_,Z,Z,nO⟩,trivial⟩ Z ?_
 exact O
end Go.Proofs
