/- The law TopRuns: -/
import Derived.Test.YtdnpapgijbhofaaGreatDoorTopV
open Go.Proofs.Tryz
set_option linter.defProp false
set_option linter.unusedVariables false
set_option linter.unusedSimpArgs false
set_option maxHeartbeats 0
set_option maxRecDepth 100000
namespace Go.Proofs
open Go.cw
def VM(b:lN):nY (nY b)=nY b:=by unfold nY;by_cases h:3000<b.bU;simp[h];simp[h]
def Ud:∀(n:Nat)(bs:List lN)(l:dX),bs.length<=n->Iq n l (bs.map nY)=runM l (bs.map nY)
 |0,[],l,_=>rfl
 |0,b::r,l,h=>by simp at h
 |n+1,[],l,_=>rfl
 |n+1,b::r,l,h=>by simp only[aeX,Iq,runM,VM];exact Ud n r _ oe
def PI:∀(X:List lN)(i:Nat)(b:lN),X[i]?=some b->∃p q:L AV,p.length=i*5/\ak (bR X)=p++((kP b).cells.map AV.c++q)/\∀O,ak (bR (X.set i O))=p++((kP O).cells.map AV.c++q)
 |[],i,b,h=>by simp at h
 |x::X,0,b,h=>by simp at h;subst h;exact⟨[],ak (bR X),rfl,by simp only[bR,ak,bz,afa,afM],λO=>by simp only[List.set_cons_zero,bR,ak,bz,afa,afM]⟩
 |x::X,i+1,b,h=>by
  simp only[ahm]at h;obtain⟨p,q,h1,h2,K⟩:=PI X i b h;refine⟨(kP x).cells.map AV.c++p,q,?_,?_,λO=>?_⟩;have:((kP x).cells.map AV.c).length=5:=rfl;rw[aaZ,h1,this];omega;have e:ak (bR (x::X))=(kP x).cells.map AV.c++ak (bR X):=(by simp only[bR,ak,bz,afa]);rw[e,h2,afn];have e:ak (bR ((x::X).set (i+1) O))=(kP x).cells.map AV.c++ak (bR (X.set i O)):=by simp only[ahs,bR,ak,bz,afa]
  rw[e,K O,afn]
def EV(i:Nat)(bs:List lN):List lN:=(bs.take i).map nY++bs.drop i
def Zf{bs:List lN}{i:Nat}{b:lN}(h:bs[i]?=some b):(EV i bs)[i]?=some b:=by have I:i<bs.length:=(List.getElem?_eq_some_iff.1 h).1;unfold EV;rw[ahc ob];simp only[aeU,afb,agS];rw[show i+(i-min i bs.length)=i by omega];exact h
def VN{bs:List lN}{i:Nat}{b:lN}(h:bs[i]?=some b):(EV i bs).set i (nY b)=EV (i+1) bs:=by have I:i<bs.length:=(List.getElem?_eq_some_iff.1 h).1;unfold EV;rw[List.set_append_right _ _ ob,List.take_add_one,h];simp only[aeU,afb,Option.toList_some,afa,aeX,List.map_nil,afn];rw[show i-min i bs.length=0 by omega,dK h];rfl
def Zg{bs:List lN}{i:Nat}(h:bs.length<=i):EV i bs=bs.map nY:=by unfold EV;rw[agJ h,afy h,aeO]
def Zh:∀(l:List lN),∀r∈bR l,r.cells.length=5
 |[],r,h=>by simp[bR]at h
 |x::l,r,h=>by
  simp only[bR,afp]at h;rcases h with rfl|h
  rfl;exact Zh l r h
def abD{bs:List lN}{i:Nat}{b:lN}(h:bs[i]?=some b):∃r,dV (0+i*5+3) (ak (bR (EV i bs)))=some (.c (ag b.bU)::r)/\bG (0+i*5+3) [.c (ag (if 3000<b.bU then 3000 else b.bU))] (ak (bR (EV i bs)))=some (ak (bR (EV (i+1) bs))):=by obtain⟨p,q,h1,h2,K⟩:=PI (EV i bs) i b (Zf h);have Y:=K (nY b);rw[VN h]at Y;obtain⟨src,S,jd,W,ops⟩:=b;rw[h2,Y,aeS,<- h1];exact⟨_,lz _ _ _ _ _ (jg p _) rfl,mG p 3 _ _ _ (oz _ _ _ _ _ rfl)⟩
attribute [local irreducible] AK ah aR bM cX cn bH cN gh dX.cq dX.hD wB wF eR
def VO(l:dX)(b:lN)(I:oY l)(U:qF b)(G:b.bU<=3000):af 29 [.agg (cN l),.agg (cN (gp l b).1),kP b,qD (gp l b).2] (.bool true):=by
 generalize gp l b=x at *;obtain⟨Ll,⟨code,done,C,Q,N⟩⟩:=x;obtain⟨src,S,jd,Y,ops⟩:=b;refine qn func29 call29 λβ hf=>?_
 repeat' (first|exact wq|refine wz ?_)
def IS(bs:List lN)(G:∀b∈bs,qF b):af 9 [.sl 5 (bR bs)] (.bool true):=by
 have Qk:=DM;have J:=qk bs;by_cases c0:40<bs.length
 ·have I:decide ((((bR bs).length:Nat):Int)>40)=true:=aaX ai;have n0:(bif false then true else decide ((((bR bs).length:Nat):Int)>40))=true:=I;refine qn func9 call9 λβ hf=>?_
  repeat' (first|exact wq|refine wz ?_|(intro h;rw[h]))
 have I:decide ((((bR bs).length:Nat):Int)>40)=false:=aaY ai;have n0:(bif false then true else decide ((((bR bs).length:Nat):Int)>40))=false:=I;have A:∀b∈bs.map nY,qF b/\b.bU<=3000:=λb q=>by obtain⟨x,D,rfl⟩:=List.mem_map.1 q;exact E0 (G x D)
 have C:=VP (bs.map nY) A (by rw[aeU];omega);have H:=nC VO (bs.map nY) (λb q=>(A b q).1);rw[Ud 40 bs mV ai]at H;have V:=Ue (bs.map nY) oq A;have Y:=q8 V;have S:(iO (I5 mV (bs.map nY))).length=bs.length:=by rw[yL,PJ,aeU]
 have U:(bR (bs.map nY)).length=bs.length:=by rw[qk,aeU]
 generalize runM mV (bs.map nY)=R at *;generalize I5 mV (bs.map nY)=Q at *;have zR:=V.h12;have P:((((iO Q).length:Nat):Int)==(((bR (bs.map nY)).length:Nat):Int))=true:=by rw[S,U];simp
 have n9:(bif true then((((iO Q).length:Nat):Int)==(((bR (bs.map nY)).length:Nat):Int))else false)=true:=P;cases W:bs with
 |nil =>
  subst W;have O:(0+0)*56<=140737488355328:=by decide
  have E:decide ((0:Int)<((([]++bR []:L CV).length:Nat):Int))=false:=rfl;have e8:((((iO Q).length:Nat):Int)==((([]++bR []:L CV).length:Nat):Int))=true:=P;have n8:(bif true then((((iO Q).length:Nat):Int)==((([]++bR []:L CV).length:Nat):Int))else false)=true:=P;refine qn func9 call9 λβ hf=>?_
  repeat' (first|exact wq|refine wz ?_|(refine uA Z ?_ ?_<;>(try (show(_:Nat)*_<=_;dsimp only)))|(intro h;rw[h]))
  exact O;refine AK.loop ?_
  repeat' (first|exact wq|refine wz ?_|refine ah.xS kn Z Z Z (gK Z (gK Z Z)) Y ?_|(intro h;rw[h]))
 |cons b0 r0 =>
  rw[<- W];have N:bR bs≠[]:=by rw[W];simp[bR]
  have u:(([]:L CV).length+(bR bs).length)*56<=140737488355328:=by rw[J];simp only[aay];omega
  clear W;refine qn func9 call9 λβ hf=>?_
  repeat' (first|exact wq|refine wz ?_|refine ah.sV hX kn Z Z Z Z Z Z Z Z Z Z Z Z Z Z Z Z Z Z N Z Z Z u Z J ?_|(intro h;rw[h]))
  refine AK.dN (α:=Nat) (λi=>i<=bs.length) (λi=>bs.length-i) (λi=>[(22,.c (ag (i:Nat))),(21,.c (ag (bs.length:Nat))),(3,.gY 19 0 5 bs.length)]) (λi=>[(19,ak (bR (EV i bs)))]) (λ_=>[]) [19] 0
   (aeW _) ce ⟨Z,trivial⟩ trivial Z (FH Z) Z ?_
  intro i hi M;by_cases T:i<bs.length
  ·obtain⟨b,B⟩:∃o,bs[i]?=some o:=⟨_,aeL T⟩;obtain⟨r,d1,p1⟩:=abD B;have E:decide ((i:Int)<((bs.length:Nat):Int))=true:=aaX ai;have K:=M (i+1) ai ai;clear M C H Y
   repeat' (first|exact wq|refine wz ?_|refine ah.jU hX kn Z Z Z Z Z Z Z Z Z i Z T ?_)
   exact AK.again K ⟨.inl (dY (i:=i) ai),.inl Z,.inl Z,trivial⟩ ⟨Z,trivial⟩ trivial Z (FH Z) Z
  obtain rfl:i=bs.length:=by omega
  have E:decide (((bs.length:Nat):Int)<((bs.length:Nat):Int))=false:=aaY ai;clear M;refine AK.y9 19 5 (bR (bs.map nY)) (tail:=[]) (env':=[(22,.c (ag (bs.length:Nat))),(21,.c (ag (bs.length:Nat))),(3,.c (.sl 5 (bR (bs.map nY))))]) (bs':=[]) (ts':=[]) Z
   (by rw[Zg (aaV _),aeO]) (Zh _) ⟨⟨_,Z,.inl Z⟩,⟨_,Z,.inl Z⟩,⟨_,Z,.inr ⟨_,Z,U.symm,Z⟩⟩,trivial⟩ trivial Z trivial ?_
  repeat' (first|exact wq|refine wz ?_|refine ah.xS kn Z Z Z (gK Z (gK Z Z)) Y ?_|(intro h;rw[h]))
end Go.Proofs
