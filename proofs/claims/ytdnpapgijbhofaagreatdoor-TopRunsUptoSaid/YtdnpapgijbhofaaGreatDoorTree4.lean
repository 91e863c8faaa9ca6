/- What add and Encode of package tree answer, and whether tree answers a -/
import Derived.Test.YtdnpapgijbhofaaGreatDoorTree3
import Derived.Test.YtdnpapgijbhofaaGreatDoorLibD
import Derived.Test.YtdnpapgijbhofaaGreatDoorTPure
import Derived.Test.YtdnpapgijbhofaaGreatDoorVal4
import Derived.Test.YtdnpapgijbhofaaGreatDoorChk3
open Go.IntKind
open Go.Proofs.Tryz
set_option linter.defProp false
set_option maxHeartbeats 0
set_option linter.unusedVariables false
set_option linter.unusedSimpArgs false
set_option maxRecDepth 100000
namespace Go.Proofs
open Go.cw
def CU{l:L Nd}{d:Int}(h:dx l d=0):∀x∈l,eW x d=0:=by
 induction l with
 |nil=>intro x D;simp at D
 |cons y l Y =>
  intro x D;simp only[dx]at h;by_cases U:eW y d=0;grind;omega
mutual
def Bc:∀(t:Nd)(d:Int),eW t d=0->bD t<=8589934593->(eJ t).length<=12*bD t
 |.mk V n p s M,d,h,C=>by obtain⟨h1,h2⟩:=kf h;obtain⟨_,_,_,_,_,_,Y,W,Q⟩:=nP h1;simp only[bD]at C;have T:=gu M;have P:=yM M (d+1) h2 ai;have O:=sK Y W;have N:=sK (n:=(s.length:Int)) gb gb;have H:=sK (n:=(M.length:Int)) gb gb;simp only[eJ,bD];split;simp only[aag];omega;split;simp only[aag,aaZ];omega;split;simp only[aag,aaZ];omega;simp only[aag,aaZ];omega
def yM:∀(l:L Nd)(d:Int),dx l d=0->aO l<=8589934593->(fK l).length<=12*aO l
 |[],d,_,_=>by simp[fK]
 |t::l,d,h,C=>by
  simp only[aO]at C;have h1:=CU h;have U:=Bc t d (h1 t cc) ai;have h2:dx l d=0:=by simp only[dx]at h;rw[if_pos (h1 t cc)]at h;exact h
  have S:=yM l d h2 ai;simp only[fK,aO,aaZ];omega
end
def En:fK []=[]:=rfl
def Cr(x:Nd)(l:L Nd):fK (x::l)=eJ x++fK l:=rfl
def Xa(n p:Int)(s:L UInt8)(M:L Nd):eJ (.mk 0 n p s M)=Go.cw.byteOf 0::kF n:=by simp[eJ]
def Xb(n p:Int)(s:L UInt8)(M:L Nd):eJ (.mk 1 n p s M)=Go.cw.byteOf 1::(kF (s.length:Int)++s):=by simp[eJ]
def Xc(n p:Int)(s:L UInt8)(M:L Nd):eJ (.mk 2 n p s M)=Go.cw.byteOf 2::Go.cw.byteOf p::(kF (M.length:Int)++fK M):=by simp[eJ]
def Xd(n p:Int)(s:L UInt8)(M:L Nd):eJ (.mk 3 n p s M)=Go.cw.byteOf 3::(kF (M.length:Int)++fK M):=by simp[eJ]
def oU(a b:L UInt8):cO (a++b)=cO a++cO b:=by simp[cO]
def nr(b:UInt8)(l:L UInt8):cO (b::l) = .int .u8 b.toNat::cO l:=rfl
attribute [local irreducible] AK ah aR bM eJ fK kF eW dx
def Kp:∀(t:Nd)(rows:L CV)(d:Int),eW t d=0->bD t<=8589934593->rows.length+12*bD t<=1000000000000 ->
  hJ 188 [.v (.own 1 rows),.v (.c (aM t))] [.own 1 (rows++cO (eJ t))] []
 |.mk K n p s M,rows,d,J,C,B=>by
  obtain⟨h1,h2⟩:=kf J;obtain⟨_,A,_,_,_,_,S,Q,oX⟩:=nP h1;simp only[bD]at C B;have Kz:=gu M;have P:=CU h2;have T:∀x∈M,∀rows:L CV,rows.length+12*bD x<=1000000000000->hJ 188 [.v (.own 1 rows),.v (.c (aM x))] [.own 1 (rows++cO (eJ x))] []:=λx D rows B=>Kp x rows (d+1) (P x D) aaM B;have E:=yM M (d+1) h2 ai;have b3:=sK (n:=(M.length:Int)) gb gb;have b2:=sK (n:=(s.length:Int)) gb gb;rcases A with rfl|rfl|⟨rfl,hp⟩|rfl
  ·rw[Xa];have Y:=zS (rows++[CV.int .u8 (IntKind.u8.wrap 0)]) n S Q Aq;refine en func188 call188 [(0,.own (.tok 1000000 0) 1 (rows)),(1,.c (aM (.mk 0 n p s M)))] [] [(1000000,0)] [1000000] λβ hf=>?_
   repeat' (first|refine qz ?_|refine ze ?_ ?_|(intro h;first|(cases h;done)|rw[h]|skip)|refine nv ?_ (hq:=Y) (hok:=by exact⟨_,_,Z,Z,⟨_,_,Z,Z,Z⟩⟩)|(refine uA Z ?_ ?_<;>(try (show(_:Nat)*_<=_;dsimp only))))
   simp only[aag,aay];omega;show(_:L LV)=_;rw[nr];simp;rfl
  ·rw[Xb];have Y:=zS (rows++[CV.int .u8 (IntKind.u8.wrap 1)]) (s.length:Int) gb gb Aq;refine en func188 call188 [(0,.own (.tok 1000000 0) 1 (rows)),(1,.c (aM (.mk 1 n p s M)))] [] [(1000000,0)] [1000000] λβ hf=>?_
   repeat' (first|refine qz ?_|refine ze ?_ ?_|(intro h;first|(cases h;done)|rw[h]|skip)|refine nv ?_ (hq:=Y) (hok:=by exact⟨_,_,Z,Z,⟨_,_,Z,Z,Z⟩⟩)|(refine uA Z ?_ ?_<;>(try (show(_:Nat)*_<=_;dsimp only))))
   simp only[aag,aay];omega;simp only[aaZ,aeU,aag,aay];omega;show(_:L LV)=_;rw[nr,oU];simp;rfl
  ·rw[Xc];have Y:=zS (rows++[CV.int .u8 (IntKind.u8.wrap 2)]++[CV.int .u8 (IntKind.u8.wrap p)]) (((aD M).length:Nat):Int) acp acp Aq;refine en func188 call188 [(0,.own (.tok 1000000 0) 1 (rows)),(1,.c (aM (.mk 2 n p s M)))] [] [(1000000,0)] [1000000] λβ hf=>?_
   repeat' (first|refine qz ?_|refine ze ?_ ?_|(intro h;first|(cases h;done)|rw[h]|skip)|refine nv ?_ (hq:=Y) (hok:=by exact⟨_,_,Z,Z,⟨_,_,Z,Z,Z⟩⟩)|(refine uA Z ?_ ?_<;>(try (show(_:Nat)*_<=_;dsimp only))))
   simp only[aag,aay];omega;simp only[aaZ,aag,aay];omega;have W:rows++[CV.int .u8 (IntKind.u8.wrap 2)]++[CV.int .u8 (IntKind.u8.wrap p)]++cO (kF (((aD M).length:Nat):Int))=rows++cO ([Go.cw.byteOf 2,Go.cw.byteOf p]++kF (M.length:Int)):=(by rw[aZ,oU,nr,nr,pG,pG];simp);refine AK.fY [(3,3)] [(1000000,(0,some 445000000))] (env':=[(47,.c (.int .i64 (0:Nat))),(46,.c (.int .i64 (aD M).length)),(45,.c (.sl 5 (aD M))),(0,.own (.tok 1000000 0) 1 (rows++cO ([Go.cw.byteOf 2,Go.cw.byteOf p]++kF (M.length:Int)))),(3,.ptr 3 0)])
    (bs':=[(3,[.c (.int .i64 2),.c (.int .i64 n),.c (.int .i64 p),.c (.str s),.c (.sl 5 (aD M))])]) (ts':=[(1000000,0)]) (us':=[3,1000000])
    ⟨⟨_,Z,.inl Z⟩,⟨_,Z,.inl Z⟩,⟨_,Z,.inl Z⟩,⟨_,Z,⟨_,Z,.inr ⟨_,_,Z,Z,aeM (AV.own (.tok 445000000 0) 1) W⟩⟩⟩,⟨_,Z,⟨_,Z,Z⟩⟩,trivial⟩ ce Z ?_
   refine AK.dN (α:=Nat×L UInt8) (λz=>z.1<=M.length/\[Go.cw.byteOf 2,Go.cw.byteOf p]++kF (M.length:Int)++fK M=z.2++fK (M.drop z.1)/\(rows.length+z.2.length)+12*aO (M.drop z.1)<=1000000000000) (λz=>M.length-z.1)
    (λz=>[(47,.c (.int .i64 z.1)),(46,.c (.int .i64 (aD M).length)),(45,.c (.sl 5 (aD M))),(0,.own (.tok 1000000 0) 1 (rows++cO z.2)),(3,.ptr 3 0)])
    (λz=>[(3,[.c (.int .i64 2),.c (.int .i64 n),.c (.int .i64 p),.c (.str s),.c (.sl 5 (aD M))])]) (λ_=>[(1000000,0)]) [3,1000000] (0,[Go.cw.byteOf 2,Go.cw.byteOf p]++kF (M.length:Int))
    ⟨ai,cc,acM⟩ ce ⟨Z,trivial⟩ ⟨Z,trivial⟩ Z Z Z ?_
   rintro⟨i,acc⟩ ⟨U,H,u⟩ ih;simp only at U H u;rcases ie M i U with ⟨x,D,q⟩|O
   ·have I:=mT D;have G:=bt D;rw[dK D]at u H;rw[Cr]at H;simp only[aO]at u;have hq:=T x q (rows++cO acc) (by simp only[aaZ,aeU];omega);have N:=Bc x (d+1) (P x q) (by have:=eO q;omega);have V:rows++cO acc++cO (eJ x)=rows++cO (acc++eJ x):=(by rw[oU,afn]);generalize eJ x=bx at hq N V H;obtain⟨x1,x2,x3,x4,x5⟩:=x
    repeat' (first|refine qz ?_|refine ze ?_ ?_|(intro h;first|(cases h;done)|rw[h]|skip)|refine uI Z (i) Z (eK D) Z ?_|refine nv ?_ (hq:=hq) (hok:=by exact⟨_,_,Z,Z,⟨_,_,Z,Z,Z⟩⟩)|(refine uA Z ?_ ?_<;>(try (show(_:Nat)*_<=_;dsimp only))))
    refine AK.fY [(3,3)] [(1000000,(0,some 545000000))] (env':=[(47,.c (.int .i64 ((i+1:Nat):Int))),(46,.c (.int .i64 (aD M).length)),(45,.c (.sl 5 (aD M))),(0,.own (.tok 1000000 0) 1 (rows++cO (acc++bx))),(3,.ptr 3 0)])
     (bs':=[(3,[.c (.int .i64 2),.c (.int .i64 n),.c (.int .i64 p),.c (.str s),.c (.sl 5 (aD M))])]) (ts':=[(1000000,0)]) (us':=[3,1000000])
     ⟨⟨_,Z,.inl (kL (i:=i) ai)⟩,⟨_,Z,.inl Z⟩,⟨_,Z,.inl Z⟩,⟨_,Z,⟨_,Z,.inr ⟨_,_,Z,Z,aeM (AV.own (.tok 545000000 0) 1) V⟩⟩⟩,⟨_,Z,⟨_,Z,Z⟩⟩,trivial⟩ ce Z ?_
    refine ih (i+1,acc++bx) ⟨G,by show [Go.cw.byteOf 2,Go.cw.byteOf p]++kF (M.length:Int)++fK M=_;rw[H];simp,aej⟩ fo
   have I:=jZ O;rw[O,aeT,En,aeO]at H;clear ih T
   repeat' (first|refine qz ?_|refine ze ?_ ?_|(intro h;first|(cases h;done)|rw[h]|skip)|(refine uA Z ?_ ?_<;>(try (show(_:Nat)*_<=_;dsimp only))))
   all_goals
    show(_:L LV)=_;refine aeM (λl=>[LV.own 1 (rows++cO l)]) ?_;rw[<- H];simp
  rw[Xd];have Y:=zS (rows++[CV.int .u8 (IntKind.u8.wrap 3)]) (((aD M).length:Nat):Int) acp acp Aq;refine en func188 call188 [(0,.own (.tok 1000000 0) 1 (rows)),(1,.c (aM (.mk 3 n p s M)))] [] [(1000000,0)] [1000000] λβ hf=>?_
  repeat' (first|refine qz ?_|refine ze ?_ ?_|(intro h;first|(cases h;done)|rw[h]|skip)|refine nv ?_ (hq:=Y) (hok:=by exact⟨_,_,Z,Z,⟨_,_,Z,Z,Z⟩⟩)|(refine uA Z ?_ ?_<;>(try (show(_:Nat)*_<=_;dsimp only))))
  simp only[aag,aay];omega;have W:rows++[CV.int .u8 (IntKind.u8.wrap 3)]++cO (kF (((aD M).length:Nat):Int))=rows++cO ([Go.cw.byteOf 3]++kF (M.length:Int)):=by rw[aZ,oU,nr,pG];simp
  refine AK.fY [(3,3)] [(1000000,(0,some 445000000))] (env':=[(47,.c (.int .i64 (0:Nat))),(46,.c (.int .i64 (aD M).length)),(45,.c (.sl 5 (aD M))),(0,.own (.tok 1000000 0) 1 (rows++cO ([Go.cw.byteOf 3]++kF (M.length:Int)))),(3,.ptr 3 0)])
   (bs':=[(3,[.c (.int .i64 3),.c (.int .i64 n),.c (.int .i64 p),.c (.str s),.c (.sl 5 (aD M))])]) (ts':=[(1000000,0)]) (us':=[3,1000000])
   ⟨⟨_,Z,.inl Z⟩,⟨_,Z,.inl Z⟩,⟨_,Z,.inl Z⟩,⟨_,Z,⟨_,Z,.inr ⟨_,_,Z,Z,aeM (AV.own (.tok 445000000 0) 1) W⟩⟩⟩,⟨_,Z,⟨_,Z,Z⟩⟩,trivial⟩ ce Z ?_
  refine AK.dN (α:=Nat×L UInt8) (λz=>z.1<=M.length/\[Go.cw.byteOf 3]++kF (M.length:Int)++fK M=z.2++fK (M.drop z.1)/\(rows.length+z.2.length)+12*aO (M.drop z.1)<=1000000000000) (λz=>M.length-z.1)
   (λz=>[(47,.c (.int .i64 z.1)),(46,.c (.int .i64 (aD M).length)),(45,.c (.sl 5 (aD M))),(0,.own (.tok 1000000 0) 1 (rows++cO z.2)),(3,.ptr 3 0)])
   (λz=>[(3,[.c (.int .i64 3),.c (.int .i64 n),.c (.int .i64 p),.c (.str s),.c (.sl 5 (aD M))])]) (λ_=>[(1000000,0)]) [3,1000000] (0,[Go.cw.byteOf 3]++kF (M.length:Int))
   ⟨ai,cc,acM⟩ ce ⟨Z,trivial⟩ ⟨Z,trivial⟩ Z Z Z ?_
  rintro⟨i,acc⟩ ⟨U,H,u⟩ ih;simp only at U H u;rcases ie M i U with ⟨x,D,q⟩|O
  ·have I:=mT D;have G:=bt D;rw[dK D]at u H;rw[Cr]at H;simp only[aO]at u;have hq:=T x q (rows++cO acc) (by simp only[aaZ,aeU];omega);have N:=Bc x (d+1) (P x q) (by have:=eO q;omega);have V:rows++cO acc++cO (eJ x)=rows++cO (acc++eJ x):=(by rw[oU,afn]);generalize eJ x=bx at hq N V H;obtain⟨x1,x2,x3,x4,x5⟩:=x
   repeat' (first|refine qz ?_|refine ze ?_ ?_|(intro h;first|(cases h;done)|rw[h]|skip)|refine uI Z (i) Z (eK D) Z ?_|refine nv ?_ (hq:=hq) (hok:=by exact⟨_,_,Z,Z,⟨_,_,Z,Z,Z⟩⟩)|(refine uA Z ?_ ?_<;>(try (show(_:Nat)*_<=_;dsimp only))))
   refine AK.fY [(3,3)] [(1000000,(0,some 545000000))] (env':=[(47,.c (.int .i64 ((i+1:Nat):Int))),(46,.c (.int .i64 (aD M).length)),(45,.c (.sl 5 (aD M))),(0,.own (.tok 1000000 0) 1 (rows++cO (acc++bx))),(3,.ptr 3 0)])
    (bs':=[(3,[.c (.int .i64 3),.c (.int .i64 n),.c (.int .i64 p),.c (.str s),.c (.sl 5 (aD M))])]) (ts':=[(1000000,0)]) (us':=[3,1000000])
    ⟨⟨_,Z,.inl (kL (i:=i) ai)⟩,⟨_,Z,.inl Z⟩,⟨_,Z,.inl Z⟩,⟨_,Z,⟨_,Z,.inr ⟨_,_,Z,Z,aeM (AV.own (.tok 545000000 0) 1) V⟩⟩⟩,⟨_,Z,⟨_,Z,Z⟩⟩,trivial⟩ ce Z ?_
   refine ih (i+1,acc++bx) ⟨G,by show [Go.cw.byteOf 3]++kF (M.length:Int)++fK M=_;rw[H];simp,aej⟩ fo
  have I:=jZ O;rw[O,aeT,En,aeO]at H;clear ih T
  repeat' (first|refine qz ?_|refine ze ?_ ?_|(intro h;first|(cases h;done)|rw[h]|skip)|(refine uA Z ?_ ?_<;>(try (show(_:Nat)*_<=_;dsimp only))))
  all_goals
   show(_:L LV)=_;refine aeM (λl=>[LV.own 1 (rows++cO l)]) ?_;rw[<- H];simp
termination_by t=>SizeOf.sizeOf t
decreasing_by
 have:=aeQ D;simp at this ⊢;omega
def F8(n:Nd):Ms n=if dZ n=0 then(eJ n,0)else([],dZ n):=rfl
def KZ(n:Nd)(B:bD n<=8589934593):af 182 [aM n] (.eF [.str (Ms n).1,.int .i64 (Ms n).2]):=by
 have h1:=rV n B;rw[F8];by_cases G:dZ n=0;rw[if_pos G];rw[G]at h1;have h2:=Kp n [] 1 (kH.1 G).1 B (by simp only[aay];omega);rw[afM]at h2;generalize eJ n=bx at h2;obtain⟨W,a2,A,P,V⟩:=n;exact qdq func182 call182;rw[if_neg G];have u:(dZ n != 0)=true:=by simpa using G
 generalize dZ n=e at h1 u;obtain⟨W,a2,A,P,V⟩:=n;exact qdq func182 call182
end Go.Proofs
namespace Go.cw
section
variable {P : Program}{X : Ctx}{f : FuncId}{n : Nat}{β : kz}{R : Ending -> World -> Prop}{K : L Item}{env : Env}
def AK.EE(hX:cB P X){C:Func}(hf:P.funcs[f]?=some C){bs:L (Nat×L AV)}{ts:L (Nat×Nat)}{us:L Nat}{rs W:L LV}{M Y:L (Nat×L LV)}{l:L AV}(B:qT X bs env C.results.toList=some l)
  (h1:BX ts rs l=some W)(h2:Dm bs ts M=some Y)(I:both (AZ (sE Y) (pO bs Y++pE 0 rk W l)) (distinct (gT (sS Y)))=true)
  (E:W=rs)(N:Y=M):AK P X f n β (ER β rs M) [] env ⟨bs,ts,us⟩:=by
 subst E N;intro g w a cs V;obtain⟨u,K,U⟩:=qY hX V B;obtain⟨T,S⟩:=eo I;have hok:=BY h1;obtain⟨O,A,J⟩:=JP V.inv hok (Dp h2) T S;refine⟨.returned u,w,_,⟨u,_,Z,?_,O,V.frame.trans A⟩,.one step_end,Z,Z,V.defers,Z,C,hf,K⟩;have D:=qu V.inv;show aP _ _ _
 match W,hok,J with
 |[],hok,J =>
  simp only[pz]at hok;subst hok;simp only[wR,aP,Rel];exact U
 |[x],hok,J =>
  simp only[pz]at hok;obtain⟨y,r,rfl,_,rfl⟩:=hok;simp only[E9,fq]at J;obtain⟨b,r',Q,H,_⟩:=J;simp at Q;obtain⟨rfl,_⟩:=Q;simp only[wR];exact(tC D H U).1
 |x::x'::r,hok,J =>
  simp only[pz]at hok;obtain⟨y,q,rfl,_,G,q',rfl,_,_⟩:=hok;simp only[wR];refine(tC D (b := .eF (y::G::q')) ?_ U).1;simp only[Conv];exact⟨_,Z,J⟩
end
end Go.cw
namespace Go.cw
def cy:L UInt8->Int
 |[]=>0
 |b::s=>match mP b s with
  |none=>0
  |some (n,_)=>if b.toNat/64%2=1 then -(n:Int)else n
def dH(s:L UInt8):L UInt8:=match fL s with
 |some (_,r)=>r
 |none=>[]
def ko(s:L UInt8):Int:=match fL s with
 |some _=>0
 |none=>1
structure RX where
 n:Nd
 s:List UInt8
 k:Int
 e:Int
def eN(f:L UInt8->Int->RX):Nat->L UInt8->Int->Int->L Nd×L UInt8×Int×Int
 |0,s,k,e=>([],s,k,e)
 |v+1,s,k,e=>if e≠0 then([],s,k,e)else
  ((f s k).n::(eN f v (f s k).s (f s k).k (f s k).e).1,(eN f v (f s k).s (f s k).k (f s k).e).2)
def j6(f:L UInt8->Int->RX)(Y p:Int)(s:L UInt8)(k:Int):RX :=
 if ko s≠0\/cy s<0 then⟨.mk Y 0 p [] [],[],k,1⟩else
  ⟨.mk Y 0 p [] (eN f (cy s).toNat (dH s) k 0).1,(eN f (cy s).toNat (dH s) k 0).2.1,(eN f (cy s).toNat (dH s) k 0).2.2.1,(eN f (cy s).toNat (dH s) k 0).2.2.2⟩
def ju(f:L UInt8->Int->RX)(c:Nat)(s:L UInt8)(k:Int):RX :=
 if c=0 then⟨.mk 0 (cy s) 0 [] [],dH s,k,ko s⟩
 else if c=1 then(if cy s<0\/cy s>200\/cy s>(dH s).length then⟨.mk 1 0 0 [] [],[],k,1⟩else⟨.mk 1 0 0 ((dH s).take (cy s).toNat) [],(dH s).drop (cy s).toNat,k,ko s⟩)
 else if c=2 then(match s with
  |[]=>⟨.mk 2 0 0 [] [],[],k,1⟩
  |p::s2=>if tL p.toNat=true then j6 f 2 p.toNat s2 k else⟨.mk 2 0 p.toNat [] [],[],k,1⟩)
 else if c=3 then j6 f 3 0 s k
 else⟨.mk c 0 0 [] [],[],k,1⟩
def oV:Nat->L UInt8->Int->RX
 |0,_,k=>⟨vw,[],k+1,4⟩
 |g+1,s,k=>if k+1>300 then⟨vw,[],k+1,4⟩else match s with
  |[]=>⟨vw,[],k+1,1⟩
  |c::s'=>ju (oV g) c.toNat s' (k+1)
def vq{s:L UInt8}{n:Int}{r:L UInt8}(h:fL s=some (n,r)):cy s=n/\dH s=r/\ko s=0:=by
 refine⟨?_,by simp[dH,h],by simp[ko,h]⟩;cases s with
 |nil=>simp[fL]at h
 |cons b s =>
  simp only[fL]at h;simp only[cy];grind
def lp{s:L UInt8}(h:fL s=none):dH s=[]/\ko s=1:=⟨by simp[dH,h],by simp[ko,h]⟩
def uf(x:RX):Rd Nd->Prop
 |.ok n r l=>x=⟨n,r,300-(l:Int),0⟩/\l<=300
 |.no e=>x.s=[]/\x.e=e/\e≠0
def PT:∀(g:Nat)(s:L UInt8)(left:Nat),left<=300->uf (oV g s (300-(left:Int))) (fU g s left)
 |0,s,left,I=>by simp[oV,fU,uf]
 |g+1,s,left,I=>by
  have D:∀(v:Nat)(s:L UInt8)(left:Nat),left<=300->match oT (fU g) v s left with
    |.ok l r Y=>eN (oV g) v s (300-(left:Int)) 0=(l,r,300-(Y:Int),0)/\Y<=300
    |.no e=>(eN (oV g) v s (300-(left:Int)) 0).2.1=[]/\(eN (oV g) v s (300-(left:Int)) 0).2.2.2=e/\e≠0:=by
   intro v
   induction v with
   |zero=>intro s left I;simp[oT,eN,I]
   |succ v Q =>
    intro s left I;have h1:=PT g s left I;simp only[oT,eN];rw[if_neg cc];cases H:fU g s left with
    |no e =>
     rw[H]at h1;simp only[uf]at h1;simp only;rw[h1.1,h1.2.1];cases v with
     |zero=>simp[eN,h1.2.2]
     |succ v=>simp[eN,h1.2.2]
    |ok n r l =>
     rw[H]at h1;simp only[uf]at h1;rw[h1.1];have h2:=Q r l h1.2;simp only;cases S:oT (fU g) v r l with
     |no e=>rw[S]at h2;simp only at h2 ⊢;exact h2
     |ok P O M=>rw[S]at h2;simp only at h2 ⊢;rw[h2.1];exact⟨Z,h2.2⟩
  have T:∀(W p:Int)(s:L UInt8)(left:Nat),left<=300->uf (j6 (oV g) W p s (300-(left:Int))) (qM (fU g) W p s left):=by
   intro W p s left I;unfold qM j6;cases B:fL s with
   |none=>simp[(lp B).2,uf]
   |some x =>
    obtain⟨n,r⟩:=x;obtain⟨E,N,V⟩:=vq B;rw[E,N,V];simp only;by_cases C:n<0;rw[if_pos C,if_pos (.inr C)];simp[uf];rw[if_neg C,if_neg ob];have h2:=D n.toNat r left I;cases H:oT (fU g) n.toNat r left with
    |no e=>rw[H]at h2;simp only at h2 ⊢;simp only[uf];exact h2
    |ok P O M=>rw[H]at h2;simp only at h2 ⊢;simp only[uf];rw[h2.1];exact⟨Z,h2.2⟩
  simp only[fU,oV];by_cases U:left=0;subst U;simp[uf];rw[if_neg U,if_neg ai];cases s with
  |nil=>simp[uf]
  |cons c s =>
   simp only;have K:300-(left:Int)+1=300-((left-1:Nat):Int):=(by omega);rw[K];unfold ju ue;split
   ·cases B:fL s with
    |none=>simp[(lp B).1,(lp B).2,uf]
    |some x =>
     obtain⟨n,r⟩:=x;obtain⟨E,N,V⟩:=vq B;rw[E,N,V];simp only[uf];exact⟨trivial,ai⟩
   split
   ·cases B:fL s with
    |none =>
     rw[(lp B).1,(lp B).2];split<;>simp[uf]
    |some x =>
     obtain⟨n,r⟩:=x;obtain⟨E,N,V⟩:=vq B;rw[E,N,V];simp only;split;simp[uf];simp only[uf];exact⟨trivial,ai⟩
   split
   ·cases s with
    |nil=>simp[uf]
    |cons p s =>
     simp only;split;grind;simp[uf]
   split;grind;simp[uf]
def Sz:∀(g:Nat)(s:L UInt8)(k:Int),0<=k->k<=300->k+1<=(oV g s k).k/\(oV g s k).k<=301/\((oV g s k).e=0->(oV g s k).k<=300)
 |0,s,k,C,h1=>by simp[oV];omega
 |g+1,s,k,C,h1=>by
  have D:∀(v:Nat)(s:L UInt8)(k:Int),0<=k->k<=300->k+(eN (oV g) v s k 0).1.length<=(eN (oV g) v s k 0).2.2.1/\(eN (oV g) v s k 0).2.2.1<=301/\((eN (oV g) v s k 0).2.2.2=0->(eN (oV g) v s k 0).2.2.1<=300):=by
   intro v
   induction v with
   |zero=>intro s k C h1;simp[eN];omega
   |succ v V =>
    intro s k C h1;have h2:=Sz g s k C h1;simp only[eN];rw[if_neg cc];by_cases O:(oV g s k).e=0;grind;have N:eN (oV g) v (oV g s k).s (oV g s k).k (oV g s k).e=([],(oV g s k).s,(oV g s k).k,(oV g s k).e):=by
     cases v with
     |zero=>rfl
     |succ v=>simp only[eN];rw[if_pos O]
    rw[N];simp only[aag,aay];exact⟨ai,h2.2.1,λh=>absurd h O⟩
  have W:∀(Y p:Int)(s:L UInt8)(k:Int),0<=k->k<=300->k<=(j6 (oV g) Y p s k).k/\(j6 (oV g) Y p s k).k<=301/\((j6 (oV g) Y p s k).e=0->(j6 (oV g) Y p s k).k<=300):=by intro Y p s k C h1;unfold j6;split;simp;omega;grind
  simp only[oV];split;simp;omega;rename_i A;cases s with
  |nil=>simp;omega
  |cons c s =>
   simp only;unfold ju;split;simp only;omega;grind
end Go.cw
namespace Go.Proofs
open Go.cw
attribute [local irreducible] AK ah aR bM
def jL(s:L UInt8)(k x:Int):hJ 193 [.box [.c (.str s),.c (.int .i64 k),.c (.int .i64 0)],.v (.c (.int .i64 x))] [] [(0,[.c (.str []),.c (.int .i64 k),.c (.int .i64 x)])]:=by refine en func193 call193 [(0,.ptr 1000000 0),(1,.c (.int .i64 x))] [(1000000,[.c (.str s),.c (.int .i64 k),.c (.int .i64 0)])] [] [1000000] λβ hf=>?_;exact dq
def zT(s:L UInt8)(k e x:Int)(O:e≠0):hJ 193 [.box [.c (.str s),.c (.int .i64 k),.c (.int .i64 e)],.v (.c (.int .i64 x))] [] [(0,[.c (.str s),.c (.int .i64 k),.c (.int .i64 e)])]:=by
 have E:(e==0)=false:=by simpa using O
 refine en func193 call193 [(0,.ptr 1000000 0),(1,.c (.int .i64 x))] [(1000000,[.c (.str s),.c (.int .i64 k),.c (.int .i64 e)])] [] [1000000] λβ hf=>?_;exact dq
def zU(c:UInt8)(s:L UInt8)(k e:Int):hJ 197 [.box [.c (.str (c::s)),.c (.int .i64 k),.c (.int .i64 e)]] [.c (.int .i64 c.toNat)] [(0,[.c (.str s),.c (.int .i64 k),.c (.int .i64 e)])]:=by
 have Y:=c.toNat_lt;refine en func197 call197 [(0,.ptr 1000000 0)] [(1000000,[.c (.str (c::s)),.c (.int .i64 k),.c (.int .i64 e)])] [] [1000000] λβ hf=>?_
 repeat' (first|refine sz ?_|refine ze ?_ ?_|(intro h;first|(cases h;done)|rw[h]|skip)|refine ah.nh Tryz.hX kn Z Z Z Z Z Z (m:=0) Z Z ?_|refine ah.GY Tryz.hX kn Z Z Z Z Z (l:=some 1) (h:=none) Z Z cc cc ?_)
 show(_:L LV)=_;rw[iB ai ai]
def Cs(k:Int):hJ 197 [.box [.c (.str []),.c (.int .i64 k),.c (.int .i64 0)]] [.c (.int .i64 0)] [(0,[.c (.str []),.c (.int .i64 k),.c (.int .i64 1)])]:=by have U:=jL [] k 1;refine en func197 call197 [(0,.ptr 1000000 0)] [(1000000,[.c (.str []),.c (.int .i64 k),.c (.int .i64 0)])] [] [1000000] λβ hf=>?_;exact dq
def PU(k e:Int)(O:e≠0):hJ 197 [.box [.c (.str []),.c (.int .i64 k),.c (.int .i64 e)]] [.c (.int .i64 0)] [(0,[.c (.str []),.c (.int .i64 k),.c (.int .i64 e)])]:=by have U:=zT [] k e 1 O;refine en func197 call197 [(0,.ptr 1000000 0)] [(1000000,[.c (.str []),.c (.int .i64 k),.c (.int .i64 e)])] [] [1000000] λβ hf=>?_;exact dq
def Zq{n c T:Nat}(B:n<2^T)(Y:c<256)(C:T<=55):i64.wrap (((BitVec.ofInt 64 (n:Int))|||(BitVec.ofInt 64 (i64.wrap (i64.wrap (((BitVec.ofInt 64 (c:Int))&&&(BitVec.ofInt 64 127)).toNat)*2^(min T 64))))).toNat)=((n+c%128*2^T:Nat):Int):=by rw[Wg ai];exact Wi B ai C
def VU(n T:Nat):sJ [] n T=none:=rfl
def Kq{b:UInt8}{s:L UInt8}{n T:Nat}(h:b.toNat=0\/T>55):sJ (b::s) n T=none:=by simp only[sJ,if_pos h]
def SA{b:UInt8}{s:L UInt8}{n T:Nat}(h:¬(b.toNat=0\/T>55)):sJ (b::s) n T=if b.toNat>=128 then sJ s (n+b.toNat%128*2^T) (T+7)else some (n+b.toNat%128*2^T,s):=by simp only[sJ,if_neg h]
def Bd{b:UInt8}{s:L UInt8}(h:mP b s=none):cy (b::s)=0/\dH (b::s)=[]/\ko (b::s)=1:=by
 have h2:fL (b::s)=none:=by simp only[fL,h]
 exact⟨by simp only[cy,h],(lp h2).1,(lp h2).2⟩
def DD{b:UInt8}{s:L UInt8}{n:Nat}{r:L UInt8}(h:mP b s=some (n,r))(U:(b.toNat/64%2=1/\n=0)\/n>1152921504606846976):cy (b::s)=(if b.toNat/64%2=1 then -(n:Int)else n)/\dH (b::s)=[]/\ko (b::s)=1:=by
 have h2:fL (b::s)=none:=by simp only[fL,h,if_pos U]
 exact⟨by simp only[cy,h],(lp h2).1,(lp h2).2⟩
def HW{b:UInt8}{s:L UInt8}{n:Nat}{r:L UInt8}(h:mP b s=some (n,r))(U:¬((b.toNat/64%2=1/\n=0)\/n>1152921504606846976)):cy (b::s)=(if b.toNat/64%2=1 then -(n:Int)else n)/\dH (b::s)=r/\ko (b::s)=0:=by
 have h2:fL (b::s)=some (if b.toNat/64%2=1 then -(n:Int)else n,r):=by simp only[fL,h,if_neg U]
 exact vq h2
def qf(p:Prop)[Decidable p]:decide p=true/\p\/decide p=false/\¬p:=by grind
def rq(s:L UInt8)(k:Int):hJ 198 [.box [.c (.str s),.c (.int .i64 k),.c (.int .i64 0)]] [.c (.int .i64 (cy s))] [(0,[.c (.str (dH s)),.c (.int .i64 k),.c (.int .i64 (ko s))])]:=by
 cases s with
 |nil =>
  have h1:=Cs k;refine en func198 call198 [(0,.ptr 1000000 0)] [(1000000,[.c (.str []),.c (.int .i64 k),.c (.int .i64 0)])] [] [1000000] λβ hf=>?_
  repeat' (first|refine sz ?_|refine ze ?_ ?_|(intro h;first|(cases h;done)|rw[h]|skip)|refine nv ?_ (hq:=h1))
  refine AK.dN (α:=Unit) (λ_=>True) (λ_=>0)
   (λ_=>[(3,.c (.int .i64 0)),(4,.c (.bool (decide ((0:Nat)/64%2=1)))),(5,.c (.int .i64 ((0%64:Nat):Int))),(0,.ptr 1000000 0)])
   (λ_=>[(1000000,[.c (.str []),.c (.int .i64 k),.c (.int .i64 1)])]) (λ_=>[]) [1000000] ()
   trivial ⟨.inl Z,.inl (aeM (λz=>some (AV.c (CV.bool z))) (Wh (c:=0) ai)),.inl (aeM (λz=>some (AV.c (CV.int .i64 z))) (MN (a:=0) ai)),.inl Z,trivial⟩ ⟨Z,trivial⟩ trivial Z Z Z ?_
  rintro _ _ W;clear W;exact dq
 |cons b s =>
  have h1:=zU b s k 0;have q:=b.toNat_lt;refine en func198 call198 [(0,.ptr 1000000 0)] [(1000000,[.c (.str (b::s)),.c (.int .i64 k),.c (.int .i64 0)])] [] [1000000] λβ hf=>?_
  repeat' (first|refine sz ?_|refine ze ?_ ?_|(intro h;first|(cases h;done)|rw[h]|skip)|refine nv ?_ (hq:=h1))
  refine AK.dN (α:=Nat×Nat×Nat×L UInt8) (λz=>z.1<256/\z.2.1<2^z.2.2.1/\z.2.2.1%7=6/\z.2.2.1<=62/\mP b s=if z.1>=128 then sJ z.2.2.2 z.2.1 z.2.2.1 else some (z.2.1,z.2.2.2)) (λz=>z.2.2.2.length)
   (λz=>[(3,.c (.int .i64 z.1)),(4,.c (.bool (decide (b.toNat/64%2=1)))),(5,.c (.int .i64 z.2.1)),(6,.c (.int .u64 z.2.2.1)),(0,.ptr 1000000 0)])
   (λz=>[(1000000,[.c (.str z.2.2.2),.c (.int .i64 k),.c (.int .i64 0)])]) (λ_=>[]) [1000000] (b.toNat,b.toNat%64,6,s)
   ⟨q,by show b.toNat%64<2^6;omega,Z,by show 6<=62;omega,Z⟩ ⟨.inl Z,.inl (aeM (λz=>some (AV.c (CV.bool z))) (Wh q)),.inl (aeM (λz=>some (AV.c (CV.int .i64 z))) (MN ai)),.inl Z,.inl Z,trivial⟩ ⟨Z,trivial⟩ trivial Z Z Z ?_
  rintro⟨c,n,T,r⟩ ⟨E,B,C,V,H⟩ W;simp only at E B C V H;by_cases M:c>=128
  ·have A:decide ((c:Int)>=128)=true:=aaX ai;rw[if_pos M]at H;cases r with
   |nil =>
    rw[VU]at H;have h2:=Cs k;have K:=zT [] k 1 1 ai;obtain⟨D,Y,U⟩:=Bd H;rw[D,Y,U];clear W;exact dq
   |cons O r =>
    have h2:=zU O r k 0;have S:=O.toNat_lt;by_cases P:O.toNat=0;rw[Kq (.inl P)]at H;have K:=jL r k 1;obtain⟨D,Y,U⟩:=Bd H;rw[D,Y,U];have J:(((O.toNat:Nat):Int)==0)=true:=(by simpa using P);clear W;exact dq;have J:(((O.toNat:Nat):Int)==0)=false:=(by simpa using P);by_cases hy:T>55;rw[Kq (.inr hy)]at H;have K:=jL r k 1;obtain⟨D,Y,U⟩:=Bd H;rw[D,Y,U];have Q:decide ((T:Int)>55)=true:=aaX ai;clear W;exact dq;rw[SA ai]at H;have Q:decide ((T:Int)>55)=false:=aaY ai;have hs:=aeM (λz=>some (AV.c (CV.int .i64 z))) (Zq B S ai);have oX:=aeM (λz=>some (AV.c (CV.int .u64 z))) (show IntKind.u64.wrap ((T:Int)+7)=((T+7:Nat):Int)by simp[IntKind.wrap,IntKind.bits,IntKind.signed];omega)
    repeat' (first|refine sz ?_|refine ze ?_ ?_|(intro h;first|(cases h;done)|rw[h]|skip)|refine nv ?_ (hq:=h2))
    refine AK.again (W (O.toNat,n+O.toNat%128*2^T,T+7,r) ⟨S,?_,by show(T+7)%7=6;omega,by show T+7<=62;omega,H⟩ (by show r.length<(O::r).length;simp)) ⟨.inl Z,.inl Z,.inl hs,.inl oX,.inl Z,trivial⟩ ⟨Z,trivial⟩ trivial Z Z Z;show n+O.toNat%128*2^T<2^(T+7);have h5:2^(T+7)=128*2^T:=by rw[Nat.pow_add];omega
    have h6:O.toNat%128*2^T<=127*2^T:=agT _ ai;omega
  have A:decide ((c:Int)>=128)=false:=aaY ai;rw[if_neg M]at H;have hnb:n<9223372036854775808:=by have:(2:Nat)^T<=2^62:=aid ai V;omega
  have G:i64.wrap (0-(n:Int)) = -(n:Int):=by rw[iB ai ai];omega
  clear W;rcases qf (b.toNat/64%2=1)with ⟨d1,u⟩|⟨d1,u⟩
  ·by_cases I:n=0;obtain⟨D,Y,U⟩:=DD H (.inl ⟨u,I⟩);rw[D,Y,U,if_pos u];subst I;have K:=jL r k 1;exact dq;have J:((n:Int)==0)=false:=(by simpa using I);by_cases N:n>1152921504606846976
   ·obtain⟨D,Y,U⟩:=DD H (.inr N);rw[D,Y,U,if_pos u];have Q:decide ((n:Int)>1152921504606846976)=true:=aaX ai;have K:=jL r k 1
    repeat' (first|refine sz ?_|refine ze ?_ ?_|(intro h;first|(cases h;done)|rw[h]|skip)|refine nv ?_ (hq:=K))
    all_goals first|rfl|(show(_:L LV)=_;exact aeM (λz=>[LV.c (CV.int .i64 z)]) G)
   obtain⟨D,Y,U⟩:=HW H ai;rw[D,Y,U,if_pos u];have Q:decide ((n:Int)>1152921504606846976)=false:=aaY ai
   repeat' (first|refine sz ?_|refine ze ?_ ?_|(intro h;first|(cases h;done)|rw[h]|skip))
   all_goals first|rfl|(show(_:L LV)=_;exact aeM (λz=>[LV.c (CV.int .i64 z)]) G)
  by_cases N:n>1152921504606846976;obtain⟨D,Y,U⟩:=DD H (.inr N);rw[D,Y,U,if_neg u];have Q:decide ((n:Int)>1152921504606846976)=true:=aaX ai;have K:=jL r k 1;exact dq;obtain⟨D,Y,U⟩:=HW H ai;rw[D,Y,U,if_neg u];have Q:decide ((n:Int)>1152921504606846976)=false:=aaY ai;exact dq
end Go.Proofs
