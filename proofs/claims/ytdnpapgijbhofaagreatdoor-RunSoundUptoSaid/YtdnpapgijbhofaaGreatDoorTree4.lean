/- What add and Encode of package tree answer, and whether tree answers a -/
import Derived.Test.YtdnpapgijbhofaaGreatDoorTree3
import Derived.Test.YtdnpapgijbhofaaGreatDoorLibD
import Derived.Test.YtdnpapgijbhofaaGreatDoorTPure
import Derived.Test.YtdnpapgijbhofaaGreatDoorVal4
import Derived.Test.YtdnpapgijbhofaaGreatDoorChk3
open Go.IntKind
open Go.Proofs.Tryz
set_option linter.defProp false
set_option maxHeartbeats 0
set_option linter.unusedVariables false
set_option linter.unusedSimpArgs false
set_option maxRecDepth 100000
namespace Go.Proofs
open Go.cM
def yo{l:L Nd}{d:Int}(h:cY l d=0):∀x∈l,ef x d=0:=by
 induction l with
 |nil=>intro x I;simp at I
 |cons y l O =>
  intro x I;simp only[cY]at h;by_cases J:ef y d=0
  ·grind
  ·omega
mutual
def wE:∀(t:Nd)(d:Int),ef t d=0->bZ t<=8589934593->(dQ t).length<=12*bZ t
 |.mk P n p s J,d,h,V=>by
  obtain⟨h1,h2⟩:=jf h;obtain⟨_,_,_,_,_,_,W,Y,M⟩:=lp h1;simp only[bZ]at V;have S:=gu J;have O:=uc J (d+1) h2 bn;have Q:=o9 W Y;have B:=o9 (n:=(s.length:Int)) j0 j0;have N:=o9 (n:=(J.length:Int)) j0 j0;simp only[dQ,bZ];split
  ·simp only[aac];omega
  ·split
   ·simp only[aac,aay];omega
   ·split
    ·simp only[aac,aay];omega
    ·simp only[aac,aay];omega
def uc:∀(l:L Nd)(d:Int),cY l d=0->aS l<=8589934593->(eI l).length<=12*aS l
 |[],d,_,_=>by simp[eI]
 |t::l,d,h,V=>by
  simp only[aS]at V;have h1:=yo h;have U:=wE t d (h1 t ek) bn;have h2:cY l d=0:=by simp only[cY]at h;rw[if_pos (h1 t ek)]at h;exact h
  have T:=uc l d h2 bn;simp only[eI,aS,aay];omega
end
def Ah:eI []=[]:=rfl
def xX(x:Nd)(l:L Nd):eI (x::l)=dQ x++eI l:=rfl
def Py(n p:Int)(s:L UInt8)(J:L Nd):dQ (.mk 0 n p s J)=Go.cM.byteOf 0::iC n:=by simp[dQ]
def Pz(n p:Int)(s:L UInt8)(J:L Nd):dQ (.mk 1 n p s J)=Go.cM.byteOf 1::(iC (s.length:Int)++s):=by simp[dQ]
def PB(n p:Int)(s:L UInt8)(J:L Nd):dQ (.mk 2 n p s J)=Go.cM.byteOf 2::Go.cM.byteOf p::(iC (J.length:Int)++eI J):=by simp[dQ]
def PC(n p:Int)(s:L UInt8)(J:L Nd):dQ (.mk 3 n p s J)=Go.cM.byteOf 3::(iC (J.length:Int)++eI J):=by simp[dQ]
def l8(a b:L UInt8):cB (a++b)=cB a++cB b:=by simp[cB]
def kR(b:UInt8)(l:L UInt8):cB (b::l) = .int .u8 b.toNat::cB l:=rfl
attribute [local irreducible] AK ah aZ cx dQ eI iC ef cY
def ET:∀(t:Nd)(rows:L CV)(d:Int),ef t d=0->bZ t<=8589934593->rows.length+12*bZ t<=1000000000000 ->
  fA 188 [.v (.own 1 rows),.v (.c (aY t))] [.own 1 (rows++cB (dQ t))] []
 |.mk H n p s J,rows,d,G,C,Q=>by
  obtain⟨h1,h2⟩:=jf G;obtain⟨_,B,_,_,_,_,u,P,nI⟩:=lp h1;simp only[bZ]at C Q;have JI:=gu J;have O:=yo h2;have E:∀x∈J,∀rows:L CV,rows.length+12*bZ x<=1000000000000->fA 188 [.v (.own 1 rows),.v (.c (aY x))] [.own 1 (rows++cB (dQ x))] []:=λx I rows Q=>ET x rows (d+1) (O x I) (by have:=eM I;omega) Q;have q:=uc J (d+1) h2 bn;have b3:=o9 (n:=(J.length:Int)) j0 j0;have b2:=o9 (n:=(s.length:Int)) j0 j0;rcases B with rfl|rfl|⟨rfl,hp⟩|rfl
  ·rw[Py];have W:=vj (rows++[CV.int .u8 (IntKind.u8.wrap 0)]) n u P u7;refine en func188 call188 [(0,.own (.tok 1000000 0) 1 (rows)),(1,.c (aY (.mk 0 n p s J)))] [] [(1000000,0)] [1000000] λβ hf=>?_
   repeat' (first|refine pe ?_|refine ze ?_ ?_|(intro h;first|(cases h;done)|rw[h]|skip)|refine jT ?_ (hq:=W) (hok:=by exact⟨_,_,Z,Z,⟨_,_,Z,Z,Z⟩⟩)|(refine uA Z ?_ ?_<;>(try (show(_:Nat)*_<=_;dsimp only))))
   ·simp only[aac,aad];omega
   ·show(_:L LV)=_;rw[kR];simp;rfl
  ·rw[Pz];have W:=vj (rows++[CV.int .u8 (IntKind.u8.wrap 1)]) (s.length:Int) j0 j0 u7;refine en func188 call188 [(0,.own (.tok 1000000 0) 1 (rows)),(1,.c (aY (.mk 1 n p s J)))] [] [(1000000,0)] [1000000] λβ hf=>?_
   repeat' (first|refine pe ?_|refine ze ?_ ?_|(intro h;first|(cases h;done)|rw[h]|skip)|refine jT ?_ (hq:=W) (hok:=by exact⟨_,_,Z,Z,⟨_,_,Z,Z,Z⟩⟩)|(refine uA Z ?_ ?_<;>(try (show(_:Nat)*_<=_;dsimp only))))
   ·simp only[aac,aad];omega
   ·simp only[aay,aap,aac,aad];omega
   ·show(_:L LV)=_;rw[kR,l8];simp;rfl
  ·rw[PB];have W:=vj (rows++[CV.int .u8 (IntKind.u8.wrap 2)]++[CV.int .u8 (IntKind.u8.wrap p)]) (((aG J).length:Nat):Int) Ux Ux u7;refine en func188 call188 [(0,.own (.tok 1000000 0) 1 (rows)),(1,.c (aY (.mk 2 n p s J)))] [] [(1000000,0)] [1000000] λβ hf=>?_
   repeat' (first|refine pe ?_|refine ze ?_ ?_|(intro h;first|(cases h;done)|rw[h]|skip)|refine jT ?_ (hq:=W) (hok:=by exact⟨_,_,Z,Z,⟨_,_,Z,Z,Z⟩⟩)|(refine uA Z ?_ ?_<;>(try (show(_:Nat)*_<=_;dsimp only))))
   ·simp only[aac,aad];omega
   ·simp only[aay,aac,aad];omega
   ·have V:rows++[CV.int .u8 (IntKind.u8.wrap 2)]++[CV.int .u8 (IntKind.u8.wrap p)]++cB (iC (((aG J).length:Nat):Int))=rows++cB ([Go.cM.byteOf 2,Go.cM.byteOf p]++iC (J.length:Int)):=by
     rw[bq,l8,kR,kR,mw,mw];simp
    refine AK.fL [(3,3)] [(1000000,(0,some 445000000))] (env':=[(47,.c (.int .i64 (0:Nat))),(46,.c (.int .i64 (aG J).length)),(45,.c (.sl 5 (aG J))),(0,.own (.tok 1000000 0) 1 (rows++cB ([Go.cM.byteOf 2,Go.cM.byteOf p]++iC (J.length:Int)))),(3,.ptr 3 0)])
     (bs':=[(3,[.c (.int .i64 2),.c (.int .i64 n),.c (.int .i64 p),.c (.str s),.c (.sl 5 (aG J))])]) (ts':=[(1000000,0)]) (us':=[3,1000000])
     ⟨⟨_,Z,.inl Z⟩,⟨_,Z,.inl Z⟩,⟨_,Z,.inl Z⟩,⟨_,Z,⟨_,Z,.inr ⟨_,_,Z,Z,Zb (AV.own (.tok 445000000 0) 1) V⟩⟩⟩,⟨_,Z,⟨_,Z,Z⟩⟩,trivial⟩ ce Z ?_
    refine AK.eX (α:=Nat×L UInt8) (λz=>z.1<=J.length/\[Go.cM.byteOf 2,Go.cM.byteOf p]++iC (J.length:Int)++eI J=z.2++eI (J.drop z.1)/\(rows.length+z.2.length)+12*aS (J.drop z.1)<=1000000000000) (λz=>J.length-z.1)
     (λz=>[(47,.c (.int .i64 z.1)),(46,.c (.int .i64 (aG J).length)),(45,.c (.sl 5 (aG J))),(0,.own (.tok 1000000 0) 1 (rows++cB z.2)),(3,.ptr 3 0)])
     (λz=>[(3,[.c (.int .i64 2),.c (.int .i64 n),.c (.int .i64 p),.c (.str s),.c (.sl 5 (aG J))])]) (λ_=>[(1000000,0)]) [3,1000000] (0,[Go.cM.byteOf 2,Go.cM.byteOf p]++iC (J.length:Int))
     ⟨bn,ek,VF⟩ ce ⟨Z,trivial⟩ ⟨Z,trivial⟩ Z Z Z ?_
    rintro⟨i,acc⟩ ⟨K,Y,D⟩ ih;simp only at K Y D;rcases gr J i K with ⟨x,I,U⟩|S
    ·have A:=lE I;have T:=bQ I;rw[eG I]at D Y;rw[xX]at Y;simp only[aS]at D;have hq:=E x U (rows++cB acc) (by simp only[aay,aap];omega);have N:=wE x (d+1) (O x U) (by have:=eM U;omega);have M:rows++cB acc++cB (dQ x)=rows++cB (acc++dQ x):=by rw[l8,aaQ]
     generalize dQ x=bx at hq N M Y;obtain⟨x1,x2,x3,x4,x5⟩:=x
     repeat' (first|refine pe ?_|refine ze ?_ ?_|(intro h;first|(cases h;done)|rw[h]|skip)|refine uI Z (i) Z (eo I) Z ?_|refine jT ?_ (hq:=hq) (hok:=by exact⟨_,_,Z,Z,⟨_,_,Z,Z,Z⟩⟩)|(refine uA Z ?_ ?_<;>(try (show(_:Nat)*_<=_;dsimp only))))
     refine AK.fL [(3,3)] [(1000000,(0,some 545000000))] (env':=[(47,.c (.int .i64 ((i+1:Nat):Int))),(46,.c (.int .i64 (aG J).length)),(45,.c (.sl 5 (aG J))),(0,.own (.tok 1000000 0) 1 (rows++cB (acc++bx))),(3,.ptr 3 0)])
      (bs':=[(3,[.c (.int .i64 2),.c (.int .i64 n),.c (.int .i64 p),.c (.str s),.c (.sl 5 (aG J))])]) (ts':=[(1000000,0)]) (us':=[3,1000000])
      ⟨⟨_,Z,.inl (jV (i:=i) bn)⟩,⟨_,Z,.inl Z⟩,⟨_,Z,.inl Z⟩,⟨_,Z,⟨_,Z,.inr ⟨_,_,Z,Z,Zb (AV.own (.tok 545000000 0) 1) M⟩⟩⟩,⟨_,Z,⟨_,Z,Z⟩⟩,trivial⟩ ce Z ?_
     refine ih (i+1,acc++bx) ⟨T,by show [Go.cM.byteOf 2,Go.cM.byteOf p]++iC (J.length:Int)++eI J=_;rw[Y];simp,X9⟩ fk
    ·have A:=js S;rw[S,Zx,Ah,Zc]at Y;clear ih E
     repeat' (first|refine pe ?_|refine ze ?_ ?_|(intro h;first|(cases h;done)|rw[h]|skip)|(refine uA Z ?_ ?_<;>(try (show(_:Nat)*_<=_;dsimp only))))
     all_goals
      show(_:L LV)=_;refine Zb (λl=>[LV.own 1 (rows++cB l)]) ?_;rw[<- Y];simp
  ·rw[PC];have W:=vj (rows++[CV.int .u8 (IntKind.u8.wrap 3)]) (((aG J).length:Nat):Int) Ux Ux u7;refine en func188 call188 [(0,.own (.tok 1000000 0) 1 (rows)),(1,.c (aY (.mk 3 n p s J)))] [] [(1000000,0)] [1000000] λβ hf=>?_
   repeat' (first|refine pe ?_|refine ze ?_ ?_|(intro h;first|(cases h;done)|rw[h]|skip)|refine jT ?_ (hq:=W) (hok:=by exact⟨_,_,Z,Z,⟨_,_,Z,Z,Z⟩⟩)|(refine uA Z ?_ ?_<;>(try (show(_:Nat)*_<=_;dsimp only))))
   ·simp only[aac,aad];omega
   ·have V:rows++[CV.int .u8 (IntKind.u8.wrap 3)]++cB (iC (((aG J).length:Nat):Int))=rows++cB ([Go.cM.byteOf 3]++iC (J.length:Int)):=by
     rw[bq,l8,kR,mw];simp
    refine AK.fL [(3,3)] [(1000000,(0,some 445000000))] (env':=[(47,.c (.int .i64 (0:Nat))),(46,.c (.int .i64 (aG J).length)),(45,.c (.sl 5 (aG J))),(0,.own (.tok 1000000 0) 1 (rows++cB ([Go.cM.byteOf 3]++iC (J.length:Int)))),(3,.ptr 3 0)])
     (bs':=[(3,[.c (.int .i64 3),.c (.int .i64 n),.c (.int .i64 p),.c (.str s),.c (.sl 5 (aG J))])]) (ts':=[(1000000,0)]) (us':=[3,1000000])
     ⟨⟨_,Z,.inl Z⟩,⟨_,Z,.inl Z⟩,⟨_,Z,.inl Z⟩,⟨_,Z,⟨_,Z,.inr ⟨_,_,Z,Z,Zb (AV.own (.tok 445000000 0) 1) V⟩⟩⟩,⟨_,Z,⟨_,Z,Z⟩⟩,trivial⟩ ce Z ?_
    refine AK.eX (α:=Nat×L UInt8) (λz=>z.1<=J.length/\[Go.cM.byteOf 3]++iC (J.length:Int)++eI J=z.2++eI (J.drop z.1)/\(rows.length+z.2.length)+12*aS (J.drop z.1)<=1000000000000) (λz=>J.length-z.1)
     (λz=>[(47,.c (.int .i64 z.1)),(46,.c (.int .i64 (aG J).length)),(45,.c (.sl 5 (aG J))),(0,.own (.tok 1000000 0) 1 (rows++cB z.2)),(3,.ptr 3 0)])
     (λz=>[(3,[.c (.int .i64 3),.c (.int .i64 n),.c (.int .i64 p),.c (.str s),.c (.sl 5 (aG J))])]) (λ_=>[(1000000,0)]) [3,1000000] (0,[Go.cM.byteOf 3]++iC (J.length:Int))
     ⟨bn,ek,VF⟩ ce ⟨Z,trivial⟩ ⟨Z,trivial⟩ Z Z Z ?_
    rintro⟨i,acc⟩ ⟨K,Y,D⟩ ih;simp only at K Y D;rcases gr J i K with ⟨x,I,U⟩|S
    ·have A:=lE I;have T:=bQ I;rw[eG I]at D Y;rw[xX]at Y;simp only[aS]at D;have hq:=E x U (rows++cB acc) (by simp only[aay,aap];omega);have N:=wE x (d+1) (O x U) (by have:=eM U;omega);have M:rows++cB acc++cB (dQ x)=rows++cB (acc++dQ x):=by rw[l8,aaQ]
     generalize dQ x=bx at hq N M Y;obtain⟨x1,x2,x3,x4,x5⟩:=x
     repeat' (first|refine pe ?_|refine ze ?_ ?_|(intro h;first|(cases h;done)|rw[h]|skip)|refine uI Z (i) Z (eo I) Z ?_|refine jT ?_ (hq:=hq) (hok:=by exact⟨_,_,Z,Z,⟨_,_,Z,Z,Z⟩⟩)|(refine uA Z ?_ ?_<;>(try (show(_:Nat)*_<=_;dsimp only))))
     refine AK.fL [(3,3)] [(1000000,(0,some 545000000))] (env':=[(47,.c (.int .i64 ((i+1:Nat):Int))),(46,.c (.int .i64 (aG J).length)),(45,.c (.sl 5 (aG J))),(0,.own (.tok 1000000 0) 1 (rows++cB (acc++bx))),(3,.ptr 3 0)])
      (bs':=[(3,[.c (.int .i64 3),.c (.int .i64 n),.c (.int .i64 p),.c (.str s),.c (.sl 5 (aG J))])]) (ts':=[(1000000,0)]) (us':=[3,1000000])
      ⟨⟨_,Z,.inl (jV (i:=i) bn)⟩,⟨_,Z,.inl Z⟩,⟨_,Z,.inl Z⟩,⟨_,Z,⟨_,Z,.inr ⟨_,_,Z,Z,Zb (AV.own (.tok 545000000 0) 1) M⟩⟩⟩,⟨_,Z,⟨_,Z,Z⟩⟩,trivial⟩ ce Z ?_
     refine ih (i+1,acc++bx) ⟨T,by show [Go.cM.byteOf 3]++iC (J.length:Int)++eI J=_;rw[Y];simp,X9⟩ fk
    ·have A:=js S;rw[S,Zx,Ah,Zc]at Y;clear ih E
     repeat' (first|refine pe ?_|refine ze ?_ ?_|(intro h;first|(cases h;done)|rw[h]|skip)|(refine uA Z ?_ ?_<;>(try (show(_:Nat)*_<=_;dsimp only))))
     all_goals
      show(_:L LV)=_;refine Zb (λl=>[LV.own 1 (rows++cB l)]) ?_;rw[<- Y];simp
termination_by t=>SizeOf.sizeOf t
decreasing_by
 have:=Zp I;simp at this ⊢;omega
def Bq(n:Nd):GF n=if dD n=0 then(dQ n,0)else([],dD n):=rfl
def Ff(n:Nd)(E:bZ n<=8589934593):aj 182 [aY n] (.gb [.str (GF n).1,.int .i64 (GF n).2]):=by
 have h1:=oB n E;rw[Bq];by_cases p:dD n=0
 ·rw[if_pos p];rw[p]at h1;have h2:=ET n [] 1 (jH.1 p).1 E (by simp only[aad];omega);rw[aaV]at h2;generalize dQ n=bx at h2;obtain⟨Y,G,q,A,H⟩:=n;refine qn func182 call182 λβ hf=>?_;exact dq
 ·rw[if_neg p];have W:(dD n != 0)=true:=by simpa using p
  generalize dD n=e at h1 W;obtain⟨Y,G,q,A,H⟩:=n;refine qn func182 call182 λβ hf=>?_;exact dq
def KS(k:Int)(m:Nat)(K : -9223372036854775808<=k)(u:k<=9223372036854775807)(U:0<m)(W:m<=1099511627776):∃r:Nat,r<m/\aj 63 [.int .i64 k,.int .i64 m] (.int .i64 r):=by
 have Y:(m:Int)≠0:=by omega
 have T:=abu k (show(0:Int)<m by omega);have S : -(m:Int)<k.tmod m:=Int.neg_lt_of_neg_lt (by rw[<- Int.neg_tmod];exact abu (-k) bn);by_cases p:k.tmod m<0
 ·have V:decide (k.tmod m<0)=true:=aaw p;refine⟨(k.tmod m+m).toNat,bn,?_⟩;refine qn func63 call63 λβ hf=>?_
  repeat' (first|refine pe ?_|refine zc ?_ ?_|(intro h;first|(cases h;done)|rw[h]|skip)|(first|refine ah.quo Tryz.hX kn Z Z Z Z Z Z Z (Y) ?_|refine ah.rem Tryz.hX kn Z Z Z Z Z Z Z (Y) ?_))
  all_goals
   show(_:CV)=_;rw[gF bn bn];exact Zb (CV.int .i64) bn
 ·have V:decide (k.tmod m<0)=false:=aax p;refine⟨(k.tmod m).toNat,bn,?_⟩;refine qn func63 call63 λβ hf=>?_
  repeat' (first|refine pe ?_|refine zc ?_ ?_|(intro h;first|(cases h;done)|rw[h]|skip)|(first|refine ah.quo Tryz.hX kn Z Z Z Z Z Z Z (Y) ?_|refine ah.rem Tryz.hX kn Z Z Z Z Z Z Z (Y) ?_))
  all_goals
   show(_:CV)=_;exact Zb (CV.int .i64) bn
end Go.Proofs
namespace Go.cM
section
variable {P : Program}{X : Ctx}{f : FuncId}{n : Nat}{β : je}{R : Ending -> World -> Prop}{K : L Item}{env : Env}
def AK.At(hX:ct P X){T:Func}(hf:P.funcs[f]?=some T){bs:L (Nat×L AV)}{ts:L (Nat×Nat)}{us:L Nat}{rs W:L LV}{S Y:L (Nat×L LV)}{l:L AV}(E:rJ X bs env T.results.toList=some l)
  (h1:xx ts rs l=some W)(h2:yV bs ts S=some Y)(A:both (rQ (oU Y) (mH bs Y++mq 0 rk W l)) (distinct (fK (pF Y)))=true)
  (C:W=rs)(J:Y=S):AK P X f n β (ER β rs S) [] env ⟨bs,ts,us⟩:=by
 subst C J;intro g w a cs U;obtain⟨u,K,Q⟩:=nO hX U E;obtain⟨N,I⟩:=dR A;have hok:=xy h1;obtain⟨M,H,V⟩:=Ef U.inv hok (yX h2) N I;refine⟨.returned u,w,_,⟨u,_,Z,?_,M,U.frame.trans H⟩,.one step_end,Z,Z,U.defers,Z,T,hf,K⟩;have D:=nq U.inv;show aI _ _ _
 match W,hok,V with
 |[],hok,V =>
  simp only[iO]at hok;subst hok;simp only[oT,aI,Rel];exact Q
 |[x],hok,V =>
  simp only[iO]at hok;obtain⟨y,r,rfl,_,rfl⟩:=hok;simp only[yP,eY]at V;obtain⟨b,r',O,G,_⟩:=V;simp at O;obtain⟨rfl,_⟩:=O;simp only[oT];exact(pO D G Q).1
 |x::x'::r,hok,V =>
  simp only[iO]at hok;obtain⟨y,q,rfl,_,B,p,rfl,_,_⟩:=hok;simp only[oT];refine(pO D (b := .gb (y::B::p)) ?_ Q).1;simp only[Conv];exact⟨_,Z,V⟩
end
end Go.cM
namespace Go.cM
def cr:L UInt8->Int
 |[]=>0
 |b::s=>match kj b s with
  |none=>0
  |some (n,_)=>if b.toNat/64%2=1 then -(n:Int)else n
def cX(s:L UInt8):L UInt8:=match eK s with
 |some (_,r)=>r
 |none=>[]
def iI(s:L UInt8):Int:=match eK s with
 |some _=>0
 |none=>1
structure RX where
 n:Nd
 s:List UInt8
 k:Int
 e:Int
def dU(f:L UInt8->Int->RX):Nat->L UInt8->Int->Int->L Nd×L UInt8×Int×Int
 |0,s,k,e=>([],s,k,e)
 |v+1,s,k,e=>if e≠0 then([],s,k,e)else
  ((f s k).n::(dU f v (f s k).s (f s k).k (f s k).e).1,(dU f v (f s k).s (f s k).k (f s k).e).2)
def iz(f:L UInt8->Int->RX)(P p:Int)(s:L UInt8)(k:Int):RX :=
 if iI s≠0\/cr s<0 then⟨.mk P 0 p [] [],[],k,1⟩else
  ⟨.mk P 0 p [] (dU f (cr s).toNat (cX s) k 0).1,(dU f (cr s).toNat (cX s) k 0).2.1,(dU f (cr s).toNat (cX s) k 0).2.2.1,(dU f (cr s).toNat (cX s) k 0).2.2.2⟩
def gP(f:L UInt8->Int->RX)(c:Nat)(s:L UInt8)(k:Int):RX :=
 if c=0 then⟨.mk 0 (cr s) 0 [] [],cX s,k,iI s⟩
 else if c=1 then(if cr s<0\/cr s>200\/cr s>(cX s).length then⟨.mk 1 0 0 [] [],[],k,1⟩else⟨.mk 1 0 0 ((cX s).take (cr s).toNat) [],(cX s).drop (cr s).toNat,k,iI s⟩)
 else if c=2 then(match s with
  |[]=>⟨.mk 2 0 0 [] [],[],k,1⟩
  |p::s2=>if pW p.toNat=true then iz f 2 p.toNat s2 k else⟨.mk 2 0 p.toNat [] [],[],k,1⟩)
 else if c=3 then iz f 3 0 s k
 else⟨.mk c 0 0 [] [],[],k,1⟩
def l9:Nat->L UInt8->Int->RX
 |0,_,k=>⟨qV,[],k+1,4⟩
 |g+1,s,k=>if k+1>300 then⟨qV,[],k+1,4⟩else match s with
  |[]=>⟨qV,[],k+1,1⟩
  |c::s'=>gP (l9 g) c.toNat s' (k+1)
def qQ{s:L UInt8}{n:Int}{r:L UInt8}(h:eK s=some (n,r)):cr s=n/\cX s=r/\iI s=0:=by
 refine⟨?_,by simp[cX,h],by simp[iI,h]⟩;cases s with
 |nil=>simp[eK]at h
 |cons b s =>
  simp only[eK]at h;simp only[cr];split at h
  ·simp at h
  ·simp_all
def ji{s:L UInt8}(h:eK s=none):cX s=[]/\iI s=1:=⟨by simp[cX,h],by simp[iI,h]⟩
def ql(x:RX):Rd Nd->Prop
 |.ok n r l=>x=⟨n,r,300-(l:Int),0⟩/\l<=300
 |.no e=>x.s=[]/\x.e=e/\e≠0
def Jt:∀(g:Nat)(s:L UInt8)(left:Nat),left<=300->ql (l9 g s (300-(left:Int))) (eT g s left)
 |0,s,left,B=>by simp[l9,eT,ql]
 |g+1,s,left,B=>by
  have U:∀(v:Nat)(s:L UInt8)(left:Nat),left<=300->match lZ (eT g) v s left with
    |.ok l r Y=>dU (l9 g) v s (300-(left:Int)) 0=(l,r,300-(Y:Int),0)/\Y<=300
    |.no e=>(dU (l9 g) v s (300-(left:Int)) 0).2.1=[]/\(dU (l9 g) v s (300-(left:Int)) 0).2.2.2=e/\e≠0:=by
   intro v
   induction v with
   |zero=>intro s left B;simp[lZ,dU,B]
   |succ v O =>
    intro s left B;have h1:=Jt g s left B;simp only[lZ,dU];rw[if_neg ek];cases K:eT g s left with
    |no e =>
     rw[K]at h1;simp only[ql]at h1;simp only;rw[h1.1,h1.2.1];cases v with
     |zero=>simp[dU,h1.2.2]
     |succ v=>simp[dU,h1.2.2]
    |ok n r l =>
     rw[K]at h1;simp only[ql]at h1;rw[h1.1];have h2:=O r l h1.2;simp only;cases W:lZ (eT g) v r l with
     |no e=>rw[W]at h2;simp only at h2 ⊢;exact h2
     |ok S N M=>rw[W]at h2;simp only at h2 ⊢;rw[h2.1];exact⟨Z,h2.2⟩
  have q:∀(P p:Int)(s:L UInt8)(left:Nat),left<=300->ql (iz (l9 g) P p s (300-(left:Int))) (nH (eT g) P p s left):=by
   intro P p s left B;unfold nH iz;cases E:eK s with
   |none=>simp[(ji E).2,ql]
   |some x =>
    obtain⟨n,r⟩:=x;obtain⟨C,Q,V⟩:=qQ E;rw[C,Q,V];simp only;by_cases H:n<0
    ·rw[if_pos H,if_pos (.inr H)];simp[ql]
    ·rw[if_neg H,if_neg ot];have h2:=U n.toNat r left B;cases K:lZ (eT g) n.toNat r left with
     |no e=>rw[K]at h2;simp only at h2 ⊢;simp only[ql];exact h2
     |ok S N M=>rw[K]at h2;simp only at h2 ⊢;simp only[ql];rw[h2.1];exact⟨Z,h2.2⟩
  simp only[eT,l9];by_cases T:left=0
  ·subst T;simp[ql]
  ·rw[if_neg T,if_neg bn];cases s with
   |nil=>simp[ql]
   |cons c s =>
    simp only;have J:300-(left:Int)+1=300-((left-1:Nat):Int):=by omega
    rw[J];unfold gP qk;split
    ·cases E:eK s with
     |none=>simp[(ji E).1,(ji E).2,ql]
     |some x =>
      obtain⟨n,r⟩:=x;obtain⟨C,Q,V⟩:=qQ E;rw[C,Q,V];simp only[ql];exact⟨trivial,bn⟩
    ·split
     ·cases E:eK s with
      |none =>
       rw[(ji E).1,(ji E).2];split<;>simp[ql]
      |some x =>
       obtain⟨n,r⟩:=x;obtain⟨C,Q,V⟩:=qQ E;rw[C,Q,V];simp only;split
       ·simp[ql]
       ·simp only[ql];exact⟨trivial,bn⟩
     ·split
      ·cases s with
       |nil=>simp[ql]
       |cons p s =>
        simp only;split
        ·grind
        ·simp[ql]
      ·split
       ·grind
       ·simp[ql]
def LJ:∀(g:Nat)(s:L UInt8)(k:Int),0<=k->k<=300->k+1<=(l9 g s k).k/\(l9 g s k).k<=301/\((l9 g s k).e=0->(l9 g s k).k<=300)
 |0,s,k,H,h1=>by simp[l9];omega
 |g+1,s,k,H,h1=>by
  have U:∀(v:Nat)(s:L UInt8)(k:Int),0<=k->k<=300->k+(dU (l9 g) v s k 0).1.length<=(dU (l9 g) v s k 0).2.2.1/\(dU (l9 g) v s k 0).2.2.1<=301/\((dU (l9 g) v s k 0).2.2.2=0->(dU (l9 g) v s k 0).2.2.1<=300):=by
   intro v
   induction v with
   |zero=>intro s k H h1;simp[dU];omega
   |succ v O =>
    intro s k H h1;have h2:=LJ g s k H h1;simp only[dU];rw[if_neg ek];by_cases S:(l9 g s k).e=0
    ·grind
    ·have q:dU (l9 g) v (l9 g s k).s (l9 g s k).k (l9 g s k).e=([],(l9 g s k).s,(l9 g s k).k,(l9 g s k).e):=by
      cases v with
      |zero=>rfl
      |succ v=>simp only[dU];rw[if_pos S]
     rw[q];simp only[aac,aad];exact⟨bn,h2.2.1,λh=>absurd h S⟩
  have Q:∀(P p:Int)(s:L UInt8)(k:Int),0<=k->k<=300->k<=(iz (l9 g) P p s k).k/\(iz (l9 g) P p s k).k<=301/\((iz (l9 g) P p s k).e=0->(iz (l9 g) P p s k).k<=300):=by
   intro P p s k H h1;unfold iz;split
   ·simp;omega
   ·grind
  simp only[l9];split
  ·simp;omega
  ·rename_i D;cases s with
   |nil=>simp;omega
   |cons c s =>
    simp only;unfold gP;split
    ·simp only;omega
    ·grind
end Go.cM
namespace Go.Proofs
open Go.cM
attribute [local irreducible] AK ah aZ cx
def hJ(s:L UInt8)(k x:Int):fA 193 [.box [.c (.str s),.c (.int .i64 k),.c (.int .i64 0)],.v (.c (.int .i64 x))] [] [(0,[.c (.str []),.c (.int .i64 k),.c (.int .i64 x)])]:=by
 refine en func193 call193 [(0,.ptr 1000000 0),(1,.c (.int .i64 x))] [(1000000,[.c (.str s),.c (.int .i64 k),.c (.int .i64 0)])] [] [1000000] λβ hf=>?_;exact dq
def vk(s:L UInt8)(k e x:Int)(S:e≠0):fA 193 [.box [.c (.str s),.c (.int .i64 k),.c (.int .i64 e)],.v (.c (.int .i64 x))] [] [(0,[.c (.str s),.c (.int .i64 k),.c (.int .i64 e)])]:=by
 have C:(e==0)=false:=by simpa using S
 refine en func193 call193 [(0,.ptr 1000000 0),(1,.c (.int .i64 x))] [(1000000,[.c (.str s),.c (.int .i64 k),.c (.int .i64 e)])] [] [1000000] λβ hf=>?_;exact dq
def vl(c:UInt8)(s:L UInt8)(k e:Int):fA 197 [.box [.c (.str (c::s)),.c (.int .i64 k),.c (.int .i64 e)]] [.c (.int .i64 c.toNat)] [(0,[.c (.str s),.c (.int .i64 k),.c (.int .i64 e)])]:=by
 have A:=c.toNat_lt;refine en func197 call197 [(0,.ptr 1000000 0)] [(1000000,[.c (.str (c::s)),.c (.int .i64 k),.c (.int .i64 e)])] [] [1000000] λβ hf=>?_
 repeat' (first|refine sz ?_|refine ze ?_ ?_|(intro h;first|(cases h;done)|rw[h]|skip)|refine ah.kF Tryz.hX kn Z Z Z Z Z Z (m:=0) Z Z ?_|refine ah.B9 Tryz.hX kn Z Z Z Z Z (l:=some 1) (h:=none) Z Z ek ek ?_)
 ·show(_:L LV)=_;rw[gF bn bn]
def xY(k:Int):fA 197 [.box [.c (.str []),.c (.int .i64 k),.c (.int .i64 0)]] [.c (.int .i64 0)] [(0,[.c (.str []),.c (.int .i64 k),.c (.int .i64 1)])]:=by
 have A:=hJ [] k 1;refine en func197 call197 [(0,.ptr 1000000 0)] [(1000000,[.c (.str []),.c (.int .i64 k),.c (.int .i64 0)])] [] [1000000] λβ hf=>?_;exact dq
def Ju(k e:Int)(S:e≠0):fA 197 [.box [.c (.str []),.c (.int .i64 k),.c (.int .i64 e)]] [.c (.int .i64 0)] [(0,[.c (.str []),.c (.int .i64 k),.c (.int .i64 e)])]:=by
 have A:=vk [] k e 1 S;refine en func197 call197 [(0,.ptr 1000000 0)] [(1000000,[.c (.str []),.c (.int .i64 k),.c (.int .i64 e)])] [] [1000000] λβ hf=>?_;exact dq
def RP{n c p:Nat}(E:n<2^p)(A:c<256)(V:p<=55):i64.wrap (((BitVec.ofInt 64 (n:Int))|||(BitVec.ofInt 64 (i64.wrap (i64.wrap (((BitVec.ofInt 64 (c:Int))&&&(BitVec.ofInt 64 127)).toNat)*2^(min p 64))))).toNat)=((n+c%128*2^p:Nat):Int):=by
 rw[O0 bn];exact O2 E bn V
def OG(n p:Nat):oZ [] n p=none:=rfl
def EU{b:UInt8}{s:L UInt8}{n p:Nat}(h:b.toNat=0\/p>55):oZ (b::s) n p=none:=by simp only[oZ,if_pos h]
def LK{b:UInt8}{s:L UInt8}{n p:Nat}(h:¬(b.toNat=0\/p>55)):oZ (b::s) n p=if b.toNat>=128 then oZ s (n+b.toNat%128*2^p) (p+7)else some (n+b.toNat%128*2^p,s):=by simp only[oZ,if_neg h]
def wF{b:UInt8}{s:L UInt8}(h:kj b s=none):cr (b::s)=0/\cX (b::s)=[]/\iI (b::s)=1:=by
 have h2:eK (b::s)=none:=by simp only[eK,h]
 exact⟨by simp only[cr,h],(ji h2).1,(ji h2).2⟩
def zo{b:UInt8}{s:L UInt8}{n:Nat}{r:L UInt8}(h:kj b s=some (n,r))(A:(b.toNat/64%2=1/\n=0)\/n>1152921504606846976):cr (b::s)=(if b.toNat/64%2=1 then -(n:Int)else n)/\cX (b::s)=[]/\iI (b::s)=1:=by
 have h2:eK (b::s)=none:=by simp only[eK,h,if_pos A]
 exact⟨by simp only[cr,h],(ji h2).1,(ji h2).2⟩
def C3{b:UInt8}{s:L UInt8}{n:Nat}{r:L UInt8}(h:kj b s=some (n,r))(A:¬((b.toNat/64%2=1/\n=0)\/n>1152921504606846976)):cr (b::s)=(if b.toNat/64%2=1 then -(n:Int)else n)/\cX (b::s)=r/\iI (b::s)=0:=by
 have h2:eK (b::s)=some (if b.toNat/64%2=1 then -(n:Int)else n,r):=by simp only[eK,h,if_neg A]
 exact qQ h2
def mX(p:Prop)[Decidable p]:decide p=true/\p\/decide p=false/\¬p:=by grind
def nR(s:L UInt8)(k:Int):fA 198 [.box [.c (.str s),.c (.int .i64 k),.c (.int .i64 0)]] [.c (.int .i64 (cr s))] [(0,[.c (.str (cX s)),.c (.int .i64 k),.c (.int .i64 (iI s))])]:=by
 cases s with
 |nil =>
  have h1:=xY k;refine en func198 call198 [(0,.ptr 1000000 0)] [(1000000,[.c (.str []),.c (.int .i64 k),.c (.int .i64 0)])] [] [1000000] λβ hf=>?_
  repeat' (first|refine sz ?_|refine ze ?_ ?_|(intro h;first|(cases h;done)|rw[h]|skip)|refine jT ?_ (hq:=h1))
  refine AK.eX (α:=Unit) (λ_=>True) (λ_=>0)
   (λ_=>[(3,.c (.int .i64 0)),(4,.c (.bool (decide ((0:Nat)/64%2=1)))),(5,.c (.int .i64 ((0%64:Nat):Int))),(0,.ptr 1000000 0)])
   (λ_=>[(1000000,[.c (.str []),.c (.int .i64 k),.c (.int .i64 1)])]) (λ_=>[]) [1000000] ()
   trivial ⟨.inl Z,.inl (Zb (λz=>some (AV.c (CV.bool z))) (O1 (c:=0) bn)),.inl (Zb (λz=>some (AV.c (CV.int .i64 z))) (G0 (a:=0) bn)),.inl Z,trivial⟩ ⟨Z,trivial⟩ trivial Z Z Z ?_
  rintro _ _ O;clear O;exact dq
 |cons b s =>
  have h1:=vl b s k 0;have A:=b.toNat_lt;refine en func198 call198 [(0,.ptr 1000000 0)] [(1000000,[.c (.str (b::s)),.c (.int .i64 k),.c (.int .i64 0)])] [] [1000000] λβ hf=>?_
  repeat' (first|refine sz ?_|refine ze ?_ ?_|(intro h;first|(cases h;done)|rw[h]|skip)|refine jT ?_ (hq:=h1))
  refine AK.eX (α:=Nat×Nat×Nat×L UInt8) (λz=>z.1<256/\z.2.1<2^z.2.2.1/\z.2.2.1%7=6/\z.2.2.1<=62/\kj b s=if z.1>=128 then oZ z.2.2.2 z.2.1 z.2.2.1 else some (z.2.1,z.2.2.2)) (λz=>z.2.2.2.length)
   (λz=>[(3,.c (.int .i64 z.1)),(4,.c (.bool (decide (b.toNat/64%2=1)))),(5,.c (.int .i64 z.2.1)),(6,.c (.int .u64 z.2.2.1)),(0,.ptr 1000000 0)])
   (λz=>[(1000000,[.c (.str z.2.2.2),.c (.int .i64 k),.c (.int .i64 0)])]) (λ_=>[]) [1000000] (b.toNat,b.toNat%64,6,s)
   ⟨A,by show b.toNat%64<2^6;omega,Z,by show 6<=62;omega,Z⟩ ⟨.inl Z,.inl (Zb (λz=>some (AV.c (CV.bool z))) (O1 A)),.inl (Zb (λz=>some (AV.c (CV.int .i64 z))) (G0 bn)),.inl Z,.inl Z,trivial⟩ ⟨Z,trivial⟩ trivial Z Z Z ?_
  rintro⟨c,n,p,r⟩ ⟨P,E,J,W,Y⟩ O;simp only at P E J W Y;by_cases S:c>=128
  ·have D:decide ((c:Int)>=128)=true:=aaw bn;rw[if_pos S]at Y;cases r with
   |nil =>
    rw[OG]at Y;have h2:=xY k;have K:=vk [] k 1 1 bn;obtain⟨M,N,G⟩:=wF Y;rw[M,N,G];clear O;exact dq
   |cons Q r =>
    have h2:=vl Q r k 0;have V:=Q.toNat_lt;by_cases I:Q.toNat=0
    ·rw[EU (.inl I)]at Y;have K:=hJ r k 1;obtain⟨M,N,G⟩:=wF Y;rw[M,N,G];have C:(((Q.toNat:Nat):Int)==0)=true:=by simpa using I
     clear O;exact dq
    ·have C:(((Q.toNat:Nat):Int)==0)=false:=by simpa using I
     by_cases B:p>55
     ·rw[EU (.inr B)]at Y;have K:=hJ r k 1;obtain⟨M,N,G⟩:=wF Y;rw[M,N,G];have q:decide ((p:Int)>55)=true:=aaw bn;clear O;exact dq
     ·rw[LK bn]at Y;have q:decide ((p:Int)>55)=false:=aax bn;have hs:=Zb (λz=>some (AV.c (CV.int .i64 z))) (RP E V bn);have nI:=Zb (λz=>some (AV.c (CV.int .u64 z))) (show IntKind.u64.wrap ((p:Int)+7)=((p+7:Nat):Int)by simp[IntKind.wrap,IntKind.bits,IntKind.signed];omega)
      repeat' (first|refine sz ?_|refine ze ?_ ?_|(intro h;first|(cases h;done)|rw[h]|skip)|refine jT ?_ (hq:=h2))
      refine AK.again (O (Q.toNat,n+Q.toNat%128*2^p,p+7,r) ⟨V,?_,by show(p+7)%7=6;omega,by show p+7<=62;omega,Y⟩ (by show r.length<(Q::r).length;simp)) ⟨.inl Z,.inl Z,.inl hs,.inl nI,.inl Z,trivial⟩ ⟨Z,trivial⟩ trivial Z Z Z;show n+Q.toNat%128*2^p<2^(p+7);have h5:2^(p+7)=128*2^p:=by rw[Nat.pow_add];omega
      have h6:Q.toNat%128*2^p<=127*2^p:=abk _ bn;omega
  ·have D:decide ((c:Int)>=128)=false:=aax bn;rw[if_neg S]at Y;have hnb:n<9223372036854775808:=by
    have:(2:Nat)^p<=2^62:=aci bn W;omega
   have u:i64.wrap (0-(n:Int)) = -(n:Int):=by rw[gF bn bn];omega
   clear O;rcases mX (b.toNat/64%2=1)with ⟨d1,H⟩|⟨d1,H⟩
   ·by_cases U:n=0
    ·obtain⟨M,N,G⟩:=zo Y (.inl ⟨H,U⟩);rw[M,N,G,if_pos H];subst U;have K:=hJ r k 1;exact dq
    ·have C:((n:Int)==0)=false:=by simpa using U
     by_cases T:n>1152921504606846976
     ·obtain⟨M,N,G⟩:=zo Y (.inr T);rw[M,N,G,if_pos H];have q:decide ((n:Int)>1152921504606846976)=true:=aaw bn;have K:=hJ r k 1
      repeat' (first|refine sz ?_|refine ze ?_ ?_|(intro h;first|(cases h;done)|rw[h]|skip)|refine jT ?_ (hq:=K))
      all_goals first|rfl|(show(_:L LV)=_;exact Zb (λz=>[LV.c (CV.int .i64 z)]) u)
     ·obtain⟨M,N,G⟩:=C3 Y bn;rw[M,N,G,if_pos H];have q:decide ((n:Int)>1152921504606846976)=false:=aax bn
      repeat' (first|refine sz ?_|refine ze ?_ ?_|(intro h;first|(cases h;done)|rw[h]|skip))
      all_goals first|rfl|(show(_:L LV)=_;exact Zb (λz=>[LV.c (CV.int .i64 z)]) u)
   ·by_cases T:n>1152921504606846976
    ·obtain⟨M,N,G⟩:=zo Y (.inr T);rw[M,N,G,if_neg H];have q:decide ((n:Int)>1152921504606846976)=true:=aaw bn;have K:=hJ r k 1;exact dq
    ·obtain⟨M,N,G⟩:=C3 Y bn;rw[M,N,G,if_neg H];have q:decide ((n:Int)>1152921504606846976)=false:=aax bn;exact dq
end Go.Proofs
