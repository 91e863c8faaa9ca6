/- What add and Encode of package tree answer, and whether tree answers a -/
import Derived.Test.YteanleefnjknoaaGreatDoorTree3
import Derived.Test.YteanleefnjknoaaGreatDoorLibD
import Derived.Test.YteanleefnjknoaaGreatDoorTPure
import Derived.Test.YteanleefnjknoaaGreatDoorVal4
import Derived.Test.YteanleefnjknoaaGreatDoorChk3
open Go.IntKind
open Go.Proofs.Tryz
set_option linter.defProp false
set_option maxHeartbeats 0
set_option linter.unusedVariables false
set_option linter.unusedSimpArgs false
set_option maxRecDepth 100000
namespace Go.Proofs
open Go.cK
def BO{l:L Nd}{d:Int}(h:dI l d=0):∀x∈l,eR x d=0:=by
 induction l with
 |nil=>intro x O;simp at O
 |cons y l Y =>
  intro x O;simp only[dI]at h;by_cases Q:eR y d=0
  ·grind
  ·omega
mutual
def z9:∀(t:Nd)(d:Int),eR t d=0->bM t<=8589934593->(eI t).length<=12*bM t
 |.mk T n p s J,d,h,Y=>by
  obtain⟨h1,h2⟩:=jT h;obtain⟨_,_,_,_,_,_,W,V,S⟩:=ni h1;simp only[bM]at Y;have Q:=gG J;have P:=xF J (d+1) h2 bn;have B:=rI W V;have q:=rI (n:=(s.length:Int)) ga ga;have O:=rI (n:=(J.length:Int)) ga ga;simp only[eI,bM];split
  ·simp only[aac];omega
  ·split
   ·simp only[aac,aaz];omega
   ·split
    ·simp only[aac,aaz];omega
    ·simp only[aac,aaz];omega
def xF:∀(l:L Nd)(d:Int),dI l d=0->aU l<=8589934593->(fG l).length<=12*aU l
 |[],d,_,_=>by simp[fG]
 |t::l,d,h,Y=>by
  simp only[aU]at Y;have h1:=BO h;have U:=z9 t d (h1 t cS) bn;have h2:dI l d=0:=by simp only[dI]at h;rw[if_pos (h1 t cS)]at h;exact h
  have K:=xF l d h2 bn;simp only[fG,aU,aaz];omega
end
def Dh:fG []=[]:=rfl
def Bk(x:Nd)(l:L Nd):fG (x::l)=eI x++fG l:=rfl
def VG(n p:Int)(s:L UInt8)(J:L Nd):eI (.mk 0 n p s J)=Go.cK.byteOf 0::jU n:=by simp[eI]
def VH(n p:Int)(s:L UInt8)(J:L Nd):eI (.mk 1 n p s J)=Go.cK.byteOf 1::(jU (s.length:Int)++s):=by simp[eI]
def VI(n p:Int)(s:L UInt8)(J:L Nd):eI (.mk 2 n p s J)=Go.cK.byteOf 2::Go.cK.byteOf p::(jU (J.length:Int)++fG J):=by simp[eI]
def VJ(n p:Int)(s:L UInt8)(J:L Nd):eI (.mk 3 n p s J)=Go.cK.byteOf 3::(jU (J.length:Int)++fG J):=by simp[eI]
def od(a b:L UInt8):cO (a++b)=cO a++cO b:=by simp[cO]
def mN(b:UInt8)(l:L UInt8):cO (b::l) = .int .u8 b.toNat::cO l:=rfl
attribute [local irreducible] AK af bg cn eI fG jU eR dI
def I6:∀(t:Nd)(rows:L CV)(d:Int),eR t d=0->bM t<=8589934593->rows.length+12*bM t<=1000000000000 ->
  gT 160 [.v (.own 1 rows),.v (.c (aW t))] [.own 1 (rows++cO (eI t))] []
 |.mk E n p s J,rows,d,D,B,Q=>by
  obtain⟨h1,h2⟩:=jT D;obtain⟨_,u,_,_,_,_,P,M,pU⟩:=ni h1;simp only[bM]at B Q;have Lb:=gG J;have H:=BO h2;have U:∀x∈J,∀rows:L CV,rows.length+12*bM x<=1000000000000->gT 160 [.v (.own 1 rows),.v (.c (aW x))] [.own 1 (rows++cO (eI x))] []:=λx O rows Q=>I6 x rows (d+1) (H x O) ach Q;have q:=xF J (d+1) h2 bn;have b3:=rI (n:=(J.length:Int)) ga ga;have b2:=rI (n:=(s.length:Int)) ga ga;rcases u with rfl|rfl|⟨rfl,hp⟩|rfl
  ·rw[VG];have Y:=yC (rows++[CV.int .u8 (IntKind.u8.wrap 0)]) n P M zw;refine en func160 call160 [(0,.own (.tok 1000000 0) 1 (rows)),(1,.c (aW (.mk 0 n p s J)))] [] [(1000000,0)] [1000000] λβ hf=>?_
   repeat' (first|refine pJ ?_|refine ze ?_ ?_|(intro h;first|(cases h;done)|rw[h]|skip)|refine mP ?_ (hq:=Y) (hok:=by exact⟨_,_,Z,Z,⟨_,_,Z,Z,Z⟩⟩)|(refine uA Z ?_ ?_<;>(try (show(_:Nat)*_<=_;dsimp only))))
   ·simp only[aac,aad];omega
   ·show(_:L LV)=_;rw[mN];simp;rfl
  ·rw[VH];have Y:=yC (rows++[CV.int .u8 (IntKind.u8.wrap 1)]) (s.length:Int) ga ga zw;refine en func160 call160 [(0,.own (.tok 1000000 0) 1 (rows)),(1,.c (aW (.mk 1 n p s J)))] [] [(1000000,0)] [1000000] λβ hf=>?_
   repeat' (first|refine pJ ?_|refine ze ?_ ?_|(intro h;first|(cases h;done)|rw[h]|skip)|refine mP ?_ (hq:=Y) (hok:=by exact⟨_,_,Z,Z,⟨_,_,Z,Z,Z⟩⟩)|(refine uA Z ?_ ?_<;>(try (show(_:Nat)*_<=_;dsimp only))))
   ·simp only[aac,aad];omega
   ·simp only[aaz,aeA,aac,aad];omega
   ·show(_:L LV)=_;rw[mN,od];simp;rfl
  ·rw[VI];have Y:=yC (rows++[CV.int .u8 (IntKind.u8.wrap 2)]++[CV.int .u8 (IntKind.u8.wrap p)]) (((aH J).length:Nat):Int) abX abX zw;refine en func160 call160 [(0,.own (.tok 1000000 0) 1 (rows)),(1,.c (aW (.mk 2 n p s J)))] [] [(1000000,0)] [1000000] λβ hf=>?_
   repeat' (first|refine pJ ?_|refine ze ?_ ?_|(intro h;first|(cases h;done)|rw[h]|skip)|refine mP ?_ (hq:=Y) (hok:=by exact⟨_,_,Z,Z,⟨_,_,Z,Z,Z⟩⟩)|(refine uA Z ?_ ?_<;>(try (show(_:Nat)*_<=_;dsimp only))))
   ·simp only[aac,aad];omega
   ·simp only[aaz,aac,aad];omega
   ·have W:rows++[CV.int .u8 (IntKind.u8.wrap 2)]++[CV.int .u8 (IntKind.u8.wrap p)]++cO (jU (((aH J).length:Nat):Int))=rows++cO ([Go.cK.byteOf 2,Go.cK.byteOf p]++jU (J.length:Int)):=by
     rw[bt,od,mN,mN,oD,oD];simp
    refine AK.fV [(3,3)] [(1000000,(0,some 445000000))] (env':=[(47,.c (.int .i64 (0:Nat))),(46,.c (.int .i64 (aH J).length)),(45,.c (.sl 5 (aH J))),(0,.own (.tok 1000000 0) 1 (rows++cO ([Go.cK.byteOf 2,Go.cK.byteOf p]++jU (J.length:Int)))),(3,.ptr 3 0)])
     (bs':=[(3,[.c (.int .i64 2),.c (.int .i64 n),.c (.int .i64 p),.c (.str s),.c (.sl 5 (aH J))])]) (ts':=[(1000000,0)]) (us':=[3,1000000])
     ⟨⟨_,Z,.inl Z⟩,⟨_,Z,.inl Z⟩,⟨_,Z,.inl Z⟩,⟨_,Z,⟨_,Z,.inr ⟨_,_,Z,Z,aeb (AV.own (.tok 445000000 0) 1) W⟩⟩⟩,⟨_,Z,⟨_,Z,Z⟩⟩,trivial⟩ ce Z ?_
    refine AK.eL (α:=Nat×L UInt8) (λz=>z.1<=J.length/\[Go.cK.byteOf 2,Go.cK.byteOf p]++jU (J.length:Int)++fG J=z.2++fG (J.drop z.1)/\(rows.length+z.2.length)+12*aU (J.drop z.1)<=1000000000000) (λz=>J.length-z.1)
     (λz=>[(47,.c (.int .i64 z.1)),(46,.c (.int .i64 (aH J).length)),(45,.c (.sl 5 (aH J))),(0,.own (.tok 1000000 0) 1 (rows++cO z.2)),(3,.ptr 3 0)])
     (λz=>[(3,[.c (.int .i64 2),.c (.int .i64 n),.c (.int .i64 p),.c (.str s),.c (.sl 5 (aH J))])]) (λ_=>[(1000000,0)]) [3,1000000] (0,[Go.cK.byteOf 2,Go.cK.byteOf p]++jU (J.length:Int))
     ⟨bn,cS,aci⟩ ce ⟨Z,trivial⟩ ⟨Z,trivial⟩ Z Z Z ?_
    rintro⟨i,acc⟩ ⟨I,N,T⟩ ih;simp only at I N T;rcases iq J i I with ⟨x,O,C⟩|S
    ·have A:=mT O;have K:=bD O;rw[dZ O]at T N;rw[Bk]at N;simp only[aU]at T;have hq:=U x C (rows++cO acc) (by simp only[aaz,aeA];omega);have G:=z9 x (d+1) (H x C) (by have:=eX C;omega);have V:rows++cO acc++cO (eI x)=rows++cO (acc++eI x):=by rw[od,aeG]
     generalize eI x=bx at hq G V N;obtain⟨x1,x2,x3,x4,x5⟩:=x
     repeat' (first|refine pJ ?_|refine ze ?_ ?_|(intro h;first|(cases h;done)|rw[h]|skip)|refine uI Z (i) Z (eO O) Z ?_|refine mP ?_ (hq:=hq) (hok:=by exact⟨_,_,Z,Z,⟨_,_,Z,Z,Z⟩⟩)|(refine uA Z ?_ ?_<;>(try (show(_:Nat)*_<=_;dsimp only))))
     refine AK.fV [(3,3)] [(1000000,(0,some 545000000))] (env':=[(47,.c (.int .i64 ((i+1:Nat):Int))),(46,.c (.int .i64 (aH J).length)),(45,.c (.sl 5 (aH J))),(0,.own (.tok 1000000 0) 1 (rows++cO (acc++bx))),(3,.ptr 3 0)])
      (bs':=[(3,[.c (.int .i64 2),.c (.int .i64 n),.c (.int .i64 p),.c (.str s),.c (.sl 5 (aH J))])]) (ts':=[(1000000,0)]) (us':=[3,1000000])
      ⟨⟨_,Z,.inl (ku (i:=i) bn)⟩,⟨_,Z,.inl Z⟩,⟨_,Z,.inl Z⟩,⟨_,Z,⟨_,Z,.inr ⟨_,_,Z,Z,aeb (AV.own (.tok 545000000 0) 1) V⟩⟩⟩,⟨_,Z,⟨_,Z,Z⟩⟩,trivial⟩ ce Z ?_
     refine ih (i+1,acc++bx) ⟨K,by show [Go.cK.byteOf 2,Go.cK.byteOf p]++jU (J.length:Int)++fG J=_;rw[N];simp,adg⟩ fo
    ·have A:=kr S;rw[S,aex,Dh,aec]at N;clear ih U
     repeat' (first|refine pJ ?_|refine ze ?_ ?_|(intro h;first|(cases h;done)|rw[h]|skip)|(refine uA Z ?_ ?_<;>(try (show(_:Nat)*_<=_;dsimp only))))
     all_goals
      show(_:L LV)=_;refine aeb (λl=>[LV.own 1 (rows++cO l)]) ?_;rw[<- N];simp
  ·rw[VJ];have Y:=yC (rows++[CV.int .u8 (IntKind.u8.wrap 3)]) (((aH J).length:Nat):Int) abX abX zw;refine en func160 call160 [(0,.own (.tok 1000000 0) 1 (rows)),(1,.c (aW (.mk 3 n p s J)))] [] [(1000000,0)] [1000000] λβ hf=>?_
   repeat' (first|refine pJ ?_|refine ze ?_ ?_|(intro h;first|(cases h;done)|rw[h]|skip)|refine mP ?_ (hq:=Y) (hok:=by exact⟨_,_,Z,Z,⟨_,_,Z,Z,Z⟩⟩)|(refine uA Z ?_ ?_<;>(try (show(_:Nat)*_<=_;dsimp only))))
   ·simp only[aac,aad];omega
   ·have W:rows++[CV.int .u8 (IntKind.u8.wrap 3)]++cO (jU (((aH J).length:Nat):Int))=rows++cO ([Go.cK.byteOf 3]++jU (J.length:Int)):=by
     rw[bt,od,mN,oD];simp
    refine AK.fV [(3,3)] [(1000000,(0,some 445000000))] (env':=[(47,.c (.int .i64 (0:Nat))),(46,.c (.int .i64 (aH J).length)),(45,.c (.sl 5 (aH J))),(0,.own (.tok 1000000 0) 1 (rows++cO ([Go.cK.byteOf 3]++jU (J.length:Int)))),(3,.ptr 3 0)])
     (bs':=[(3,[.c (.int .i64 3),.c (.int .i64 n),.c (.int .i64 p),.c (.str s),.c (.sl 5 (aH J))])]) (ts':=[(1000000,0)]) (us':=[3,1000000])
     ⟨⟨_,Z,.inl Z⟩,⟨_,Z,.inl Z⟩,⟨_,Z,.inl Z⟩,⟨_,Z,⟨_,Z,.inr ⟨_,_,Z,Z,aeb (AV.own (.tok 445000000 0) 1) W⟩⟩⟩,⟨_,Z,⟨_,Z,Z⟩⟩,trivial⟩ ce Z ?_
    refine AK.eL (α:=Nat×L UInt8) (λz=>z.1<=J.length/\[Go.cK.byteOf 3]++jU (J.length:Int)++fG J=z.2++fG (J.drop z.1)/\(rows.length+z.2.length)+12*aU (J.drop z.1)<=1000000000000) (λz=>J.length-z.1)
     (λz=>[(47,.c (.int .i64 z.1)),(46,.c (.int .i64 (aH J).length)),(45,.c (.sl 5 (aH J))),(0,.own (.tok 1000000 0) 1 (rows++cO z.2)),(3,.ptr 3 0)])
     (λz=>[(3,[.c (.int .i64 3),.c (.int .i64 n),.c (.int .i64 p),.c (.str s),.c (.sl 5 (aH J))])]) (λ_=>[(1000000,0)]) [3,1000000] (0,[Go.cK.byteOf 3]++jU (J.length:Int))
     ⟨bn,cS,aci⟩ ce ⟨Z,trivial⟩ ⟨Z,trivial⟩ Z Z Z ?_
    rintro⟨i,acc⟩ ⟨I,N,T⟩ ih;simp only at I N T;rcases iq J i I with ⟨x,O,C⟩|S
    ·have A:=mT O;have K:=bD O;rw[dZ O]at T N;rw[Bk]at N;simp only[aU]at T;have hq:=U x C (rows++cO acc) (by simp only[aaz,aeA];omega);have G:=z9 x (d+1) (H x C) (by have:=eX C;omega);have V:rows++cO acc++cO (eI x)=rows++cO (acc++eI x):=by rw[od,aeG]
     generalize eI x=bx at hq G V N;obtain⟨x1,x2,x3,x4,x5⟩:=x
     repeat' (first|refine pJ ?_|refine ze ?_ ?_|(intro h;first|(cases h;done)|rw[h]|skip)|refine uI Z (i) Z (eO O) Z ?_|refine mP ?_ (hq:=hq) (hok:=by exact⟨_,_,Z,Z,⟨_,_,Z,Z,Z⟩⟩)|(refine uA Z ?_ ?_<;>(try (show(_:Nat)*_<=_;dsimp only))))
     refine AK.fV [(3,3)] [(1000000,(0,some 545000000))] (env':=[(47,.c (.int .i64 ((i+1:Nat):Int))),(46,.c (.int .i64 (aH J).length)),(45,.c (.sl 5 (aH J))),(0,.own (.tok 1000000 0) 1 (rows++cO (acc++bx))),(3,.ptr 3 0)])
      (bs':=[(3,[.c (.int .i64 3),.c (.int .i64 n),.c (.int .i64 p),.c (.str s),.c (.sl 5 (aH J))])]) (ts':=[(1000000,0)]) (us':=[3,1000000])
      ⟨⟨_,Z,.inl (ku (i:=i) bn)⟩,⟨_,Z,.inl Z⟩,⟨_,Z,.inl Z⟩,⟨_,Z,⟨_,Z,.inr ⟨_,_,Z,Z,aeb (AV.own (.tok 545000000 0) 1) V⟩⟩⟩,⟨_,Z,⟨_,Z,Z⟩⟩,trivial⟩ ce Z ?_
     refine ih (i+1,acc++bx) ⟨K,by show [Go.cK.byteOf 3]++jU (J.length:Int)++fG J=_;rw[N];simp,adg⟩ fo
    ·have A:=kr S;rw[S,aex,Dh,aec]at N;clear ih U
     repeat' (first|refine pJ ?_|refine ze ?_ ?_|(intro h;first|(cases h;done)|rw[h]|skip)|(refine uA Z ?_ ?_<;>(try (show(_:Nat)*_<=_;dsimp only))))
     all_goals
      show(_:L LV)=_;refine aeb (λl=>[LV.own 1 (rows++cO l)]) ?_;rw[<- N];simp
termination_by t=>SizeOf.sizeOf t
decreasing_by
 have:=aee O;simp at this ⊢;omega
def EX(n:Nd):K2 n=if dY n=0 then(eI n,0)else([],dY n):=rfl
def JP(n:Nd)(B:bM n<=8589934593):ah 153 [aW n] (.eY [.str (K2 n).1,.int .i64 (K2 n).2]):=by
 have h1:=qL n B;rw[EX];by_cases G:dY n=0
 ·rw[if_pos G];rw[G]at h1;have h2:=I6 n [] 1 (kf.1 G).1 B (by simp only[aad];omega);rw[aeU]at h2;generalize eI n=bx at h2;obtain⟨U,a2,D,P,C⟩:=n;refine qn func153 call153 λβ hf=>?_;exact dq
 ·rw[if_neg G];have u:(dY n != 0)=true:=by simpa using G
  generalize dY n=e at h1 u;obtain⟨U,a2,D,P,C⟩:=n;refine qn func153 call153 λβ hf=>?_;exact dq
end Go.Proofs
namespace Go.cK
section
variable {P : Program}{X : Ctx}{f : FuncId}{n : Nat}{β : jZ}{R : Ending -> World -> Prop}{K : L Item}{env : Env}
def AK.DB(hX:cF P X){S:Func}(hf:P.funcs[f]?=some S){bs:L (Nat×L AV)}{ts:L (Nat×Nat)}{us:L Nat}{rs W:L LV}{M Y:L (Nat×L LV)}{l:L AV}(C:qF X bs env S.results.toList=some l)
  (h1:A1 ts rs l=some W)(h2:Cg bs ts M=some Y)(A:both (u9 (rD Y) (oI bs Y++oC 0 rk W l)) (distinct (gN (rQ Y)))=true)
  (I:W=rs)(Q:Y=M):AK P X f n β (ER β rs M) [] env ⟨bs,ts,us⟩:=by
 subst I Q;intro g w a cs V;obtain⟨u,O,T⟩:=qg hX V C;obtain⟨N,H⟩:=ej A;have hok:=A2 h1;obtain⟨J,G,D⟩:=IC V.inv hok (Ci h2) N H;refine⟨.returned u,w,_,⟨u,_,Z,?_,J,V.frame.trans G⟩,.one step_end,Z,Z,V.defers,Z,S,hf,O⟩;have U:=pE V.inv;show aL _ _ _
 match W,hok,D with
 |[],hok,D =>
  simp only[ki]at hok;subst hok;simp only[rC,aL,Rel];exact T
 |[x],hok,D =>
  simp only[ki]at hok;obtain⟨y,r,rfl,_,rfl⟩:=hok;simp only[Ca,eF]at D;obtain⟨b,r',K,E,_⟩:=D;simp at K;obtain⟨rfl,_⟩:=K;simp only[rC];exact(sn U E T).1
 |x::x'::r,hok,D =>
  simp only[ki]at hok;obtain⟨y,q,rfl,_,B,p,rfl,_,_⟩:=hok;simp only[rC];refine(sn U (b := .eY (y::B::p)) ?_ T).1;simp only[Conv];exact⟨_,Z,D⟩
end
end Go.cK
namespace Go.cK
def cD:L UInt8->Int
 |[]=>0
 |b::s=>match mh b s with
  |none=>0
  |some (n,_)=>if b.toNat/64%2=1 then -(n:Int)else n
def dO(s:L UInt8):L UInt8:=match fI s with
 |some (_,r)=>r
 |none=>[]
def jX(s:L UInt8):Int:=match fI s with
 |some _=>0
 |none=>1
structure RX where
 n:Nd
 s:List UInt8
 k:Int
 e:Int
def eN(f:L UInt8->Int->RX):Nat->L UInt8->Int->Int->L Nd×L UInt8×Int×Int
 |0,s,k,e=>([],s,k,e)
 |v+1,s,k,e=>if e≠0 then([],s,k,e)else
  ((f s k).n::(eN f v (f s k).s (f s k).k (f s k).e).1,(eN f v (f s k).s (f s k).k (f s k).e).2)
def jL(f:L UInt8->Int->RX)(T p:Int)(s:L UInt8)(k:Int):RX :=
 if jX s≠0\/cD s<0 then⟨.mk T 0 p [] [],[],k,1⟩else
  ⟨.mk T 0 p [] (eN f (cD s).toNat (dO s) k 0).1,(eN f (cD s).toNat (dO s) k 0).2.1,(eN f (cD s).toNat (dO s) k 0).2.2.1,(eN f (cD s).toNat (dO s) k 0).2.2.2⟩
def jd(f:L UInt8->Int->RX)(c:Nat)(s:L UInt8)(k:Int):RX :=
 if c=0 then⟨.mk 0 (cD s) 0 [] [],dO s,k,jX s⟩
 else if c=1 then(if cD s<0\/cD s>200\/cD s>(dO s).length then⟨.mk 1 0 0 [] [],[],k,1⟩else⟨.mk 1 0 0 ((dO s).take (cD s).toNat) [],(dO s).drop (cD s).toNat,k,jX s⟩)
 else if c=2 then(match s with
  |[]=>⟨.mk 2 0 0 [] [],[],k,1⟩
  |p::s2=>if sD p.toNat=true then jL f 2 p.toNat s2 k else⟨.mk 2 0 p.toNat [] [],[],k,1⟩)
 else if c=3 then jL f 3 0 s k
 else⟨.mk c 0 0 [] [],[],k,1⟩
def og:Nat->L UInt8->Int->RX
 |0,_,k=>⟨uo,[],k+1,4⟩
 |g+1,s,k=>if k+1>300 then⟨uo,[],k+1,4⟩else match s with
  |[]=>⟨uo,[],k+1,1⟩
  |c::s'=>jd (og g) c.toNat s' (k+1)
def ug{s:L UInt8}{n:Int}{r:L UInt8}(h:fI s=some (n,r)):cD s=n/\dO s=r/\jX s=0:=by
 refine⟨?_,by simp[dO,h],by simp[jX,h]⟩;cases s with
 |nil=>simp[fI]at h
 |cons b s =>
  simp only[fI]at h;simp only[cD];split at h
  ·simp at h
  ·simp_all
def kQ{s:L UInt8}(h:fI s=none):dO s=[]/\jX s=1:=⟨by simp[dO,h],by simp[jX,h]⟩
def sX(x:RX):Rd Nd->Prop
 |.ok n r l=>x=⟨n,r,300-(l:Int),0⟩/\l<=300
 |.no e=>x.s=[]/\x.e=e/\e≠0
def On:∀(g:Nat)(s:L UInt8)(left:Nat),left<=300->sX (og g s (300-(left:Int))) (fP g s left)
 |0,s,left,E=>by simp[og,fP,sX]
 |g+1,s,left,E=>by
  have I:∀(v:Nat)(s:L UInt8)(left:Nat),left<=300->match oa (fP g) v s left with
    |.ok l r Y=>eN (og g) v s (300-(left:Int)) 0=(l,r,300-(Y:Int),0)/\Y<=300
    |.no e=>(eN (og g) v s (300-(left:Int)) 0).2.1=[]/\(eN (og g) v s (300-(left:Int)) 0).2.2.2=e/\e≠0:=by
   intro v
   induction v with
   |zero=>intro s left E;simp[oa,eN,E]
   |succ v S =>
    intro s left E;have h1:=On g s left E;simp only[oa,eN];rw[if_neg cS];cases C:fP g s left with
    |no e =>
     rw[C]at h1;simp only[sX]at h1;simp only;rw[h1.1,h1.2.1];cases v with
     |zero=>simp[eN,h1.2.2]
     |succ v=>simp[eN,h1.2.2]
    |ok n r l =>
     rw[C]at h1;simp only[sX]at h1;rw[h1.1];have h2:=S r l h1.2;simp only;cases U:oa (fP g) v r l with
     |no e=>rw[U]at h2;simp only at h2 ⊢;exact h2
     |ok O u N=>rw[U]at h2;simp only at h2 ⊢;rw[h2.1];exact⟨Z,h2.2⟩
  have H:∀(T p:Int)(s:L UInt8)(left:Nat),left<=300->sX (jL (og g) T p s (300-(left:Int))) (pS (fP g) T p s left):=by
   intro T p s left E;unfold pS jL;cases B:fI s with
   |none=>simp[(kQ B).2,sX]
   |some x =>
    obtain⟨n,r⟩:=x;obtain⟨P,W,G⟩:=ug B;rw[P,W,G];simp only;by_cases Q:n<0
    ·rw[if_pos Q,if_pos (.inr Q)];simp[sX]
    ·rw[if_neg Q,if_neg ob];have h2:=I n.toNat r left E;cases C:oa (fP g) n.toNat r left with
     |no e=>rw[C]at h2;simp only at h2 ⊢;simp only[sX];exact h2
     |ok O u N=>rw[C]at h2;simp only at h2 ⊢;simp only[sX];rw[h2.1];exact⟨Z,h2.2⟩
  simp only[fP,og];by_cases V:left=0
  ·subst V;simp[sX]
  ·rw[if_neg V,if_neg bn];cases s with
   |nil=>simp[sX]
   |cons c s =>
    simp only;have M:300-(left:Int)+1=300-((left-1:Nat):Int):=by omega
    rw[M];unfold jd sW;split
    ·cases B:fI s with
     |none=>simp[(kQ B).1,(kQ B).2,sX]
     |some x =>
      obtain⟨n,r⟩:=x;obtain⟨P,W,G⟩:=ug B;rw[P,W,G];simp only[sX];exact⟨trivial,bn⟩
    ·split
     ·cases B:fI s with
      |none =>
       rw[(kQ B).1,(kQ B).2];split<;>simp[sX]
      |some x =>
       obtain⟨n,r⟩:=x;obtain⟨P,W,G⟩:=ug B;rw[P,W,G];simp only;split
       ·simp[sX]
       ·simp only[sX];exact⟨trivial,bn⟩
     ·split
      ·cases s with
       |nil=>simp[sX]
       |cons p s =>
        simp only;split
        ·grind
        ·simp[sX]
      ·split
       ·grind
       ·simp[sX]
def QX:∀(g:Nat)(s:L UInt8)(k:Int),0<=k->k<=300->k+1<=(og g s k).k/\(og g s k).k<=301/\((og g s k).e=0->(og g s k).k<=300)
 |0,s,k,Q,h1=>by simp[og];omega
 |g+1,s,k,Q,h1=>by
  have I:∀(v:Nat)(s:L UInt8)(k:Int),0<=k->k<=300->k+(eN (og g) v s k 0).1.length<=(eN (og g) v s k 0).2.2.1/\(eN (og g) v s k 0).2.2.1<=301/\((eN (og g) v s k 0).2.2.2=0->(eN (og g) v s k 0).2.2.1<=300):=by
   intro v
   induction v with
   |zero=>intro s k Q h1;simp[eN];omega
   |succ v Y =>
    intro s k Q h1;have h2:=QX g s k Q h1;simp only[eN];rw[if_neg cS];by_cases S:(og g s k).e=0
    ·grind
    ·have W:eN (og g) v (og g s k).s (og g s k).k (og g s k).e=([],(og g s k).s,(og g s k).k,(og g s k).e):=by
      cases v with
      |zero=>rfl
      |succ v=>simp only[eN];rw[if_pos S]
     rw[W];simp only[aac,aad];exact⟨bn,h2.2.1,λh=>absurd h S⟩
  have H:∀(T p:Int)(s:L UInt8)(k:Int),0<=k->k<=300->k<=(jL (og g) T p s k).k/\(jL (og g) T p s k).k<=301/\((jL (og g) T p s k).e=0->(jL (og g) T p s k).k<=300):=by
   intro T p s k Q h1;unfold jL;split
   ·simp;omega
   ·grind
  simp only[og];split
  ·simp;omega
  ·rename_i D;cases s with
   |nil=>simp;omega
   |cons c s =>
    simp only;unfold jd;split
    ·simp only;omega
    ·grind
end Go.cK
namespace Go.Proofs
open Go.cK
attribute [local irreducible] AK af bg cn
def jx(s:L UInt8)(k x:Int):gT 165 [.box [.c (.str s),.c (.int .i64 k),.c (.int .i64 0)],.v (.c (.int .i64 x))] [] [(0,[.c (.str []),.c (.int .i64 k),.c (.int .i64 x)])]:=by
 refine en func165 call165 [(0,.ptr 1000000 0),(1,.c (.int .i64 x))] [(1000000,[.c (.str s),.c (.int .i64 k),.c (.int .i64 0)])] [] [1000000] λβ hf=>?_;exact dq
def yD(s:L UInt8)(k e x:Int)(S:e≠0):gT 165 [.box [.c (.str s),.c (.int .i64 k),.c (.int .i64 e)],.v (.c (.int .i64 x))] [] [(0,[.c (.str s),.c (.int .i64 k),.c (.int .i64 e)])]:=by
 have I:(e==0)=false:=by simpa using S
 refine en func165 call165 [(0,.ptr 1000000 0),(1,.c (.int .i64 x))] [(1000000,[.c (.str s),.c (.int .i64 k),.c (.int .i64 e)])] [] [1000000] λβ hf=>?_;exact dq
def yE(c:UInt8)(s:L UInt8)(k e:Int):gT 169 [.box [.c (.str (c::s)),.c (.int .i64 k),.c (.int .i64 e)]] [.c (.int .i64 c.toNat)] [(0,[.c (.str s),.c (.int .i64 k),.c (.int .i64 e)])]:=by
 have A:=c.toNat_lt;refine en func169 call169 [(0,.ptr 1000000 0)] [(1000000,[.c (.str (c::s)),.c (.int .i64 k),.c (.int .i64 e)])] [] [1000000] λβ hf=>?_
 repeat' (first|refine sz ?_|refine ze ?_ ?_|(intro h;first|(cases h;done)|rw[h]|skip)|refine af.mG Tryz.hX kn Z Z Z Z Z Z (m:=0) Z Z ?_|refine af.FP Tryz.hX kn Z Z Z Z Z (l:=some 1) (h:=none) Z Z cS cS ?_)
 ·show(_:L LV)=_;rw[iy bn bn]
def Bl(k:Int):gT 169 [.box [.c (.str []),.c (.int .i64 k),.c (.int .i64 0)]] [.c (.int .i64 0)] [(0,[.c (.str []),.c (.int .i64 k),.c (.int .i64 1)])]:=by
 have Q:=jx [] k 1;refine en func169 call169 [(0,.ptr 1000000 0)] [(1000000,[.c (.str []),.c (.int .i64 k),.c (.int .i64 0)])] [] [1000000] λβ hf=>?_;exact dq
def Oo(k e:Int)(S:e≠0):gT 169 [.box [.c (.str []),.c (.int .i64 k),.c (.int .i64 e)]] [.c (.int .i64 0)] [(0,[.c (.str []),.c (.int .i64 k),.c (.int .i64 e)])]:=by
 have Q:=yD [] k e 1 S;refine en func169 call169 [(0,.ptr 1000000 0)] [(1000000,[.c (.str []),.c (.int .i64 k),.c (.int .i64 e)])] [] [1000000] λβ hf=>?_;exact dq
def XH{n c N:Nat}(B:n<2^N)(A:c<256)(Y:N<=55):i64.wrap (((BitVec.ofInt 64 (n:Int))|||(BitVec.ofInt 64 (i64.wrap (i64.wrap (((BitVec.ofInt 64 (c:Int))&&&(BitVec.ofInt 64 127)).toNat)*2^(min N 64))))).toNat)=((n+c%128*2^N:Nat):Int):=by
 rw[UI bn];exact UK B bn Y
def Un(n N:Nat):rH [] n N=none:=rfl
def I7{b:UInt8}{s:L UInt8}{n N:Nat}(h:b.toNat=0\/N>55):rH (b::s) n N=none:=by simp only[rH,if_pos h]
def QY{b:UInt8}{s:L UInt8}{n N:Nat}(h:¬(b.toNat=0\/N>55)):rH (b::s) n N=if b.toNat>=128 then rH s (n+b.toNat%128*2^N) (N+7)else some (n+b.toNat%128*2^N,s):=by simp only[rH,if_neg h]
def Aa{b:UInt8}{s:L UInt8}(h:mh b s=none):cD (b::s)=0/\dO (b::s)=[]/\jX (b::s)=1:=by
 have h2:fI (b::s)=none:=by simp only[fI,h]
 exact⟨by simp only[cD,h],(kQ h2).1,(kQ h2).2⟩
def Cu{b:UInt8}{s:L UInt8}{n:Nat}{r:L UInt8}(h:mh b s=some (n,r))(Q:(b.toNat/64%2=1/\n=0)\/n>1152921504606846976):cD (b::s)=(if b.toNat/64%2=1 then -(n:Int)else n)/\dO (b::s)=[]/\jX (b::s)=1:=by
 have h2:fI (b::s)=none:=by simp only[fI,h,if_pos Q]
 exact⟨by simp only[cD,h],(kQ h2).1,(kQ h2).2⟩
def GA{b:UInt8}{s:L UInt8}{n:Nat}{r:L UInt8}(h:mh b s=some (n,r))(Q:¬((b.toNat/64%2=1/\n=0)\/n>1152921504606846976)):cD (b::s)=(if b.toNat/64%2=1 then -(n:Int)else n)/\dO (b::s)=r/\jX (b::s)=0:=by
 have h2:fI (b::s)=some (if b.toNat/64%2=1 then -(n:Int)else n,r):=by simp only[fI,h,if_neg Q]
 exact ug h2
def oW(p:Prop)[Decidable p]:decide p=true/\p\/decide p=false/\¬p:=by grind
def qi(s:L UInt8)(k:Int):gT 170 [.box [.c (.str s),.c (.int .i64 k),.c (.int .i64 0)]] [.c (.int .i64 (cD s))] [(0,[.c (.str (dO s)),.c (.int .i64 k),.c (.int .i64 (jX s))])]:=by
 cases s with
 |nil =>
  have h1:=Bl k;refine en func170 call170 [(0,.ptr 1000000 0)] [(1000000,[.c (.str []),.c (.int .i64 k),.c (.int .i64 0)])] [] [1000000] λβ hf=>?_
  repeat' (first|refine sz ?_|refine ze ?_ ?_|(intro h;first|(cases h;done)|rw[h]|skip)|refine mP ?_ (hq:=h1))
  refine AK.eL (α:=Unit) (λ_=>True) (λ_=>0)
   (λ_=>[(3,.c (.int .i64 0)),(4,.c (.bool (decide ((0:Nat)/64%2=1)))),(5,.c (.int .i64 ((0%64:Nat):Int))),(0,.ptr 1000000 0)])
   (λ_=>[(1000000,[.c (.str []),.c (.int .i64 k),.c (.int .i64 1)])]) (λ_=>[]) [1000000] ()
   trivial ⟨.inl Z,.inl (aeb (λz=>some (AV.c (CV.bool z))) (UJ (c:=0) bn)),.inl (aeb (λz=>some (AV.c (CV.int .i64 z))) (Lm (a:=0) bn)),.inl Z,trivial⟩ ⟨Z,trivial⟩ trivial Z Z Z ?_
  rintro _ _ W;clear W;exact dq
 |cons b s =>
  have h1:=yE b s k 0;have G:=b.toNat_lt;refine en func170 call170 [(0,.ptr 1000000 0)] [(1000000,[.c (.str (b::s)),.c (.int .i64 k),.c (.int .i64 0)])] [] [1000000] λβ hf=>?_
  repeat' (first|refine sz ?_|refine ze ?_ ?_|(intro h;first|(cases h;done)|rw[h]|skip)|refine mP ?_ (hq:=h1))
  refine AK.eL (α:=Nat×Nat×Nat×L UInt8) (λz=>z.1<256/\z.2.1<2^z.2.2.1/\z.2.2.1%7=6/\z.2.2.1<=62/\mh b s=if z.1>=128 then rH z.2.2.2 z.2.1 z.2.2.1 else some (z.2.1,z.2.2.2)) (λz=>z.2.2.2.length)
   (λz=>[(3,.c (.int .i64 z.1)),(4,.c (.bool (decide (b.toNat/64%2=1)))),(5,.c (.int .i64 z.2.1)),(6,.c (.int .u64 z.2.2.1)),(0,.ptr 1000000 0)])
   (λz=>[(1000000,[.c (.str z.2.2.2),.c (.int .i64 k),.c (.int .i64 0)])]) (λ_=>[]) [1000000] (b.toNat,b.toNat%64,6,s)
   ⟨G,by show b.toNat%64<2^6;omega,Z,by show 6<=62;omega,Z⟩ ⟨.inl Z,.inl (aeb (λz=>some (AV.c (CV.bool z))) (UJ G)),.inl (aeb (λz=>some (AV.c (CV.int .i64 z))) (Lm bn)),.inl Z,.inl Z,trivial⟩ ⟨Z,trivial⟩ trivial Z Z Z ?_
  rintro⟨c,n,q,r⟩ ⟨A,M,I,T,N⟩ W;simp only at A M I T N;by_cases K:c>=128
  ·have E:decide ((c:Int)>=128)=true:=aak bn;rw[if_pos K]at N;cases r with
   |nil =>
    rw[Un]at N;have h2:=Bl k;have U:=yD [] k 1 1 bn;obtain⟨P,Y,B⟩:=Aa N;rw[P,Y,B];clear W;exact dq
   |cons O r =>
    have h2:=yE O r k 0;have S:=O.toNat_lt;by_cases u:O.toNat=0
    ·rw[I7 (.inl u)]at N;have U:=jx r k 1;obtain⟨P,Y,B⟩:=Aa N;rw[P,Y,B];have H:(((O.toNat:Nat):Int)==0)=true:=by simpa using u
     clear W;exact dq
    ·have H:(((O.toNat:Nat):Int)==0)=false:=by simpa using u
     by_cases C:q>55
     ·rw[I7 (.inr C)]at N;have U:=jx r k 1;obtain⟨P,Y,B⟩:=Aa N;rw[P,Y,B];have p:decide ((q:Int)>55)=true:=aak bn;clear W;exact dq
     ·rw[QY bn]at N;have p:decide ((q:Int)>55)=false:=aap bn;have hs:=aeb (λz=>some (AV.c (CV.int .i64 z))) (XH M S bn);have pU:=aeb (λz=>some (AV.c (CV.int .u64 z))) (show IntKind.u64.wrap ((q:Int)+7)=((q+7:Nat):Int)by simp[IntKind.wrap,IntKind.bits,IntKind.signed];omega)
      repeat' (first|refine sz ?_|refine ze ?_ ?_|(intro h;first|(cases h;done)|rw[h]|skip)|refine mP ?_ (hq:=h2))
      refine AK.again (W (O.toNat,n+O.toNat%128*2^q,q+7,r) ⟨S,?_,by show(q+7)%7=6;omega,by show q+7<=62;omega,N⟩ (by show r.length<(O::r).length;simp)) ⟨.inl Z,.inl Z,.inl hs,.inl pU,.inl Z,trivial⟩ ⟨Z,trivial⟩ trivial Z Z Z;show n+O.toNat%128*2^q<2^(q+7);have h5:2^(q+7)=128*2^q:=by rw[Nat.pow_add];omega
      have h6:O.toNat%128*2^q<=127*2^q:=afE _ bn;omega
  ·have E:decide ((c:Int)>=128)=false:=aap bn;rw[if_neg K]at N;have hnb:n<9223372036854775808:=by
    have:(2:Nat)^q<=2^62:=ahe bn T;omega
   have J:i64.wrap (0-(n:Int)) = -(n:Int):=by rw[iy bn bn];omega
   clear W;rcases oW (b.toNat/64%2=1)with ⟨d1,V⟩|⟨d1,V⟩
   ·by_cases D:n=0
    ·obtain⟨P,Y,B⟩:=Cu N (.inl ⟨V,D⟩);rw[P,Y,B,if_pos V];subst D;have U:=jx r k 1;exact dq
    ·have H:((n:Int)==0)=false:=by simpa using D
     by_cases Q:n>1152921504606846976
     ·obtain⟨P,Y,B⟩:=Cu N (.inr Q);rw[P,Y,B,if_pos V];have p:decide ((n:Int)>1152921504606846976)=true:=aak bn;have U:=jx r k 1
      repeat' (first|refine sz ?_|refine ze ?_ ?_|(intro h;first|(cases h;done)|rw[h]|skip)|refine mP ?_ (hq:=U))
      all_goals first|rfl|(show(_:L LV)=_;exact aeb (λz=>[LV.c (CV.int .i64 z)]) J)
     ·obtain⟨P,Y,B⟩:=GA N bn;rw[P,Y,B,if_pos V];have p:decide ((n:Int)>1152921504606846976)=false:=aap bn
      repeat' (first|refine sz ?_|refine ze ?_ ?_|(intro h;first|(cases h;done)|rw[h]|skip))
      all_goals first|rfl|(show(_:L LV)=_;exact aeb (λz=>[LV.c (CV.int .i64 z)]) J)
   ·by_cases Q:n>1152921504606846976
    ·obtain⟨P,Y,B⟩:=Cu N (.inr Q);rw[P,Y,B,if_neg V];have p:decide ((n:Int)>1152921504606846976)=true:=aak bn;have U:=jx r k 1;exact dq
    ·obtain⟨P,Y,B⟩:=GA N bn;rw[P,Y,B,if_neg V];have p:decide ((n:Int)>1152921504606846976)=false:=aap bn;exact dq
end Go.Proofs
