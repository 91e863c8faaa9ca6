/- What put and add of package tree answer. What add and Encode of package tree answer, and whether tree answers at all. Leaving a call with boxes at the end of its text. Package tree's reader as plain functions, step for step, and that it answers as trees are read. -/
import Derived.Test.YtlohbilpimjmmaaGreatDoorVal8
import Derived.Test.YtlohbilpimjmmaaGreatDoorBits
import Derived.Test.YtlohbilpimjmmaaGreatDoorLibD
import Derived.Test.YtlohbilpimjmmaaGreatDoorTPure
set_option maxHeartbeats 0
set_option linter.unusedVariables false
set_option linter.unusedSimpArgs false
namespace Go.Proofs
open Go.cq
theorem bZ (rows:List CV) (l:List UInt8) (b:UInt8) (z:Int) (h:z=(b.toNat:Int)):rows++cD l++[CV.int .u8 z]=rows++cD (l++[b]):=by
 subst h;simp[cD]
theorem DL:∀(k m c:Nat),m<128^k->(AM c m).length<=k+1
 | 0,m,c,h=>by
  obtain rfl:m=0:=by simpa using h
  rw[mw];simp
 | k+1,m,c,h=>by
  by_cases M:m=0
  ·subst M;rw[mw];simp
  ·rw[nJ _ _ M];have:=DL k (m/128) (m%128) (by rw[Nat.pow_succ]at h;omega);simp only[aac];omega
theorem ql {n:Int} (h1 : -bP<=n) (h2:n<=bP):(jd n).length<=10:=by
 unfold jd;refine DL 9 _ _ ?_;unfold bP at h1 h2;omega
attribute [local irreducible] AK ai bh bt
theorem Kd {rows:List CV} {acc:List UInt8} {c:Nat} (h:c<128):rows++cD acc++[CV.int .u8 (IntKind.u8.wrap (((BitVec.ofInt 8 (c:Int))|||(BitVec.ofInt 8 128)).toNat))]=rows++cD (acc++[Go.cq.byteOf ((c+128:Nat):Int)]):=by
 refine bZ rows acc _ _ ?_;rw[YP h,iO _ bn]
theorem Vu {n:Int} (h1 : -bP<=n) (h2:n<=bP) (Y:n<0):IntKind.u8.wrap (((BitVec.ofInt 8 64)|||(BitVec.ofInt 8 (IntKind.u8.wrap (IntKind.i64.wrap (((BitVec.ofInt 64 (IntKind.i64.wrap (0-n)))&&&(BitVec.ofInt 64 63)).toNat))))).toNat)=((64+n.natAbs%64:Nat):Int):=by
 unfold bP at h1 h2;rw[gW (n:=0-n) bn bn,show 0-n=((n.natAbs:Nat):Int)from by omega,I2 bn,LG (a:=n.natAbs%64) bn];exact UA ⟨n.natAbs%64,bn⟩
theorem Tg {n:Int} (h1 : -bP<=n) (h2:n<=bP) (Y:n<0):(IntKind.i64.wrap (0-n)).fdiv (2^(min 6 64))=((n.natAbs/64:Nat):Int):=by
 unfold bP at h1 h2;rw[gW (n:=0-n) bn bn,show 0-n=((n.natAbs:Nat):Int)from by omega];exact BZ n.natAbs 6
theorem Vv {n:Int} (h1 : -bP<=n) (h2:n<=bP) (Y:¬n<0):IntKind.u8.wrap (((BitVec.ofInt 8 0)|||(BitVec.ofInt 8 (IntKind.u8.wrap (IntKind.i64.wrap (((BitVec.ofInt 64 n)&&&(BitVec.ofInt 64 63)).toNat))))).toNat)=((0+n.natAbs%64:Nat):Int):=by
 unfold bP at h1 h2;obtain⟨a,rfl⟩:∃a:Nat,n=a:=⟨n.toNat,bn⟩
 rw[I2 bn,LG (a:=a%64) bn];exact or_none ⟨a%64,bn⟩
theorem Th {n:Int} (h1 : -bP<=n) (h2:n<=bP) (Y:¬n<0):n.fdiv (2^(min 6 64))=((n.natAbs/64:Nat):Int):=by
 obtain⟨a,rfl⟩:∃a:Nat,n=a:=⟨n.toNat,bn⟩
 exact BZ a 6
theorem Ti {m:Nat} (h:m<9223372036854775808):IntKind.u8.wrap (IntKind.i64.wrap (((BitVec.ofInt 64 (m:Int))&&&(BitVec.ofInt 64 127)).toNat))=((m%128:Nat):Int):=by
 rw[Q6 h,LG bn]
theorem wF (rows:List CV) (n:Int) (h1 : -bP<=n) (h2:n<=bP) (A:rows.length<=1099511627776) :
  fG 154 [.v (.own 1 rows),.v (.c (.int .i64 n))] [.own 1 (rows++cD (jd n))] []:=by
 have S:n.natAbs<=1152921504606846976:=by unfold bP at h1 h2;omega
 by_cases W:n<0
 ·have C:decide (n<0)=true:=aam W;refine bt.tQ Tryz.func154 rfl (fun args w=>Tryz.call154 args w) (Nat.le_of_ble_eq_true rfl) [(0,.own (.tok 1000000 0) 1 (rows)),(1,.c (.int .i64 n))] [] [(1000000,0)] [1000000] rfl rfl fun β=>?_;have hf:=Tryz.func154
  repeat' (first|refine nP ?_|refine zr ?_ ?_|(refine zc ?_ ?_<;>intro h<;>first|(cases h;done)|rw[h]|skip)|(refine uA rfl ?_ ?_<;>(try (show(_:Nat)*_<=_;dsimp only))))
  refine AK.eK (α:=Nat×Nat×List UInt8) (fun z=>z.1<128/\z.2.1<=1152921504606846976/\z.2.2.length<=10/\jd n=z.2.2++AM z.1 z.2.1) (fun z=>z.2.1)
   (fun z=>[(5,.c (.int .u8 z.1)),(1,.c (.int .i64 z.2.1)),(0,.own (.tok 1000000 0) 1 (rows++cD z.2.2))]) (fun _=>[]) (fun _=>[(1000000,0)]) [1000000] (64+n.natAbs%64,n.natAbs/64,[])
   ⟨by show 64+n.natAbs%64<128;omega,by show n.natAbs/64<=_;omega,c9,by unfold jd;rw[if_pos W];rfl⟩ ⟨.inl (congrArg (fun z=>some (AV.c (CV.int .u8 z))) (Vu h1 h2 W)),.inl (congrArg (fun z=>some (AV.c (CV.int .i64 z))) (Tg h1 h2 W)),.inl (congrArg (fun l=>some (AV.own (.tok 1000000 0) 1 l)) (List.append_nil rows).symm),trivial⟩ trivial ⟨rfl,trivial⟩ rfl rfl rfl ?_
  rintro⟨c,m,acc⟩ ⟨E,M,U,T⟩ ih;simp only at E M U T;by_cases Y:m=0
  ·have q:decide ((m:Int)>0)=false:=aan bn;rw[Y,mw]at T;clear ih
   repeat' (first|refine nP ?_|refine zr ?_ ?_|(refine zc ?_ ?_<;>intro h<;>first|(cases h;done)|rw[h]|skip)|(refine uA rfl ?_ ?_<;>(try (show(_:Nat)*_<=_;dsimp only))))
   ·simp only[aas,List.length_map,aac,aad];omega
   ·show(_:List LV)=_;rw[T];exact Ye
  ·have q:decide ((m:Int)>0)=true:=aam bn;rw[nJ _ _ Y]at T;have V:=ql h1 h2;rw[T]at V;simp only[aas,aac]at V
   repeat' (first|refine nP ?_|refine zr ?_ ?_|(refine zc ?_ ?_<;>intro h<;>first|(cases h;done)|rw[h]|skip)|(refine uA rfl ?_ ?_<;>(try (show(_:Nat)*_<=_;dsimp only))))
   ·simp only[aas,List.length_map,aac,aad];omega
   ·refine AK.fW [] [(1000000,(0,some 1000000))] (env':=[(5,.c (.int .u8 ((m%128:Nat):Int))),(1,.c (.int .i64 ((m/128:Nat):Int))),(0,.own (.tok 1000000 0) 1 (rows++cD (acc++[Go.cq.byteOf ((c+128:Nat):Int)])))])
     (bs':=[]) (ts':=[(1000000,0)]) (us':=[1000000])
     ⟨⟨_,rfl,.inl (congrArg (fun z=>AV.c (CV.int .u8 z)) (Ti (m:=m) bn))⟩,⟨_,rfl,.inl (congrArg (fun z=>AV.c (CV.int .i64 z)) (BZ m 7))⟩,⟨_,rfl,⟨_,rfl,.inr ⟨_,_,rfl,rfl,congrArg (AV.own (.tok 1000000 1) 1) (Kd E)⟩⟩⟩,trivial⟩ trivial rfl ?_
    refine ih (m%128,m/128,acc++[Go.cq.byteOf ((c+128:Nat):Int)]) ⟨by show m%128<128;omega,by show m/128<=_;omega,sx,by show jd n=_;rw[T];simp⟩ (by show m/128<m;omega)
 ·have C:decide (n<0)=false:=aan W;refine bt.tQ Tryz.func154 rfl (fun args w=>Tryz.call154 args w) (Nat.le_of_ble_eq_true rfl) [(0,.own (.tok 1000000 0) 1 (rows)),(1,.c (.int .i64 n))] [] [(1000000,0)] [1000000] rfl rfl fun β=>?_;have hf:=Tryz.func154
  repeat' (first|refine nP ?_|refine zr ?_ ?_|(refine zc ?_ ?_<;>intro h<;>first|(cases h;done)|rw[h]|skip)|(refine uA rfl ?_ ?_<;>(try (show(_:Nat)*_<=_;dsimp only))))
  refine AK.eK (α:=Nat×Nat×List UInt8) (fun z=>z.1<128/\z.2.1<=1152921504606846976/\z.2.2.length<=10/\jd n=z.2.2++AM z.1 z.2.1) (fun z=>z.2.1)
   (fun z=>[(5,.c (.int .u8 z.1)),(1,.c (.int .i64 z.2.1)),(0,.own (.tok 1000000 0) 1 (rows++cD z.2.2))]) (fun _=>[]) (fun _=>[(1000000,0)]) [1000000] (0+n.natAbs%64,n.natAbs/64,[])
   ⟨by show 0+n.natAbs%64<128;omega,by show n.natAbs/64<=_;omega,c9,by unfold jd;rw[if_neg W];rfl⟩ ⟨.inl (congrArg (fun z=>some (AV.c (CV.int .u8 z))) (Vv h1 h2 W)),.inl (congrArg (fun z=>some (AV.c (CV.int .i64 z))) (Th h1 h2 W)),.inl (congrArg (fun l=>some (AV.own (.tok 1000000 0) 1 l)) (List.append_nil rows).symm),trivial⟩ trivial ⟨rfl,trivial⟩ rfl rfl rfl ?_
  rintro⟨c,m,acc⟩ ⟨E,M,U,T⟩ ih;simp only at E M U T;by_cases Y:m=0
  ·have q:decide ((m:Int)>0)=false:=aan bn;rw[Y,mw]at T;clear ih
   repeat' (first|refine nP ?_|refine zr ?_ ?_|(refine zc ?_ ?_<;>intro h<;>first|(cases h;done)|rw[h]|skip)|(refine uA rfl ?_ ?_<;>(try (show(_:Nat)*_<=_;dsimp only))))
   ·simp only[aas,List.length_map,aac,aad];omega
   ·show(_:List LV)=_;rw[T];exact Ye
  ·have q:decide ((m:Int)>0)=true:=aam bn;rw[nJ _ _ Y]at T;have V:=ql h1 h2;rw[T]at V;simp only[aas,aac]at V
   repeat' (first|refine nP ?_|refine zr ?_ ?_|(refine zc ?_ ?_<;>intro h<;>first|(cases h;done)|rw[h]|skip)|(refine uA rfl ?_ ?_<;>(try (show(_:Nat)*_<=_;dsimp only))))
   ·simp only[aas,List.length_map,aac,aad];omega
   ·refine AK.fW [] [(1000000,(0,some 1000000))] (env':=[(5,.c (.int .u8 ((m%128:Nat):Int))),(1,.c (.int .i64 ((m/128:Nat):Int))),(0,.own (.tok 1000000 0) 1 (rows++cD (acc++[Go.cq.byteOf ((c+128:Nat):Int)])))])
     (bs':=[]) (ts':=[(1000000,0)]) (us':=[1000000])
     ⟨⟨_,rfl,.inl (congrArg (fun z=>AV.c (CV.int .u8 z)) (Ti (m:=m) bn))⟩,⟨_,rfl,.inl (congrArg (fun z=>AV.c (CV.int .i64 z)) (BZ m 7))⟩,⟨_,rfl,⟨_,rfl,.inr ⟨_,_,rfl,rfl,congrArg (AV.own (.tok 1000000 1) 1) (Kd E)⟩⟩⟩,trivial⟩ trivial rfl ?_
    refine ih (m%128,m/128,acc++[Go.cq.byteOf ((c+128:Nat):Int)]) ⟨by show m%128<128;omega,by show m/128<=_;omega,sx,by show jd n=_;rw[T];simp⟩ (by show m/128<m;omega)
end Go.Proofs
set_option maxRecDepth 100000
namespace Go.Proofs
open Go.cq
theorem zX {l:List Nd} {d:Int} (h:dg l d=0):∀x∈l,ep x d=0:=by
 induction l with
 | nil=>intro x O;simp at O
 | cons y l S =>
  intro x O;simp only[dg]at h;by_cases N:ep y d=0
  ·grind
  ·omega
mutual
theorem xY:∀(t:Nd) (d:Int),ep t d=0->b8 t<=8589934593->(dR t).length<=12*b8 t
 | .mk kind n p s args,d,h,Y=>by
  obtain⟨h1,h2⟩:=jF h;obtain⟨_,_,_,_,_,_,W,V,u⟩:=mh h1;simp only[b8]at Y;have S:=fP args;have Q:=vu args (d+1) h2 bn;have P:=ql W V;have O:=ql (n:=(s.length:Int)) gS gS;have N:=ql (n:=(args.length:Int)) gS gS;simp only[dR,b8];split
  ·simp only[aac];omega
  ·split
   ·simp only[aac,aas];omega
   ·split
    ·simp only[aac,aas];omega
    ·simp only[aac,aas];omega
theorem vu:∀(l:List Nd) (d:Int),dg l d=0->aU l<=8589934593->(eS l).length<=12*aU l
 | [],d,_,_=>by simp[eS]
 | t::l,d,h,Y=>by
  simp only[aU]at Y;have h1:=zX h;have U:=xY t d (h1 t c9) bn;have h2:dg l d=0:=by simp only[dg]at h;rw[if_pos (h1 t c9)]at h;exact h
  have T:=vu l d h2 bn;simp only[eS,aU,aas];omega
end
theorem Bu:eS []=[]:=rfl
theorem zp (x:Nd) (l:List Nd):eS (x::l)=dR x++eS l:=rfl
theorem RF (n p:Int) (s:List UInt8) (args:List Nd):dR (.mk 0 n p s args)=Go.cq.byteOf 0::jd n:=by simp[dR]
theorem RG (n p:Int) (s:List UInt8) (args:List Nd):dR (.mk 1 n p s args)=Go.cq.byteOf 1::(jd (s.length:Int)++s):=by simp[dR]
theorem RH (n p:Int) (s:List UInt8) (args:List Nd):dR (.mk 2 n p s args)=Go.cq.byteOf 2::Go.cq.byteOf p::(jd (args.length:Int)++eS args):=by simp[dR]
theorem RI (n p:Int) (s:List UInt8) (args:List Nd):dR (.mk 3 n p s args)=Go.cq.byteOf 3::(jd (args.length:Int)++eS args):=by simp[dR]
theorem mT (a b:List UInt8):cD (a++b)=cD a++cD b:=by simp[cD]
theorem lR (b:UInt8) (l:List UInt8):cD (b::l) = .int .u8 b.toNat::cD l:=rfl
attribute [local irreducible] AK ai bh bt dR eS jd ep dg
theorem Ge:∀(t:Nd) (rows:List CV) (d:Int),ep t d=0->b8 t<=8589934593->rows.length+12*b8 t<=1000000000000 ->
  fG 147 [.v (.own 1 rows),.v (.c (aX t))] [.own 1 (rows++cD (dR t))] []
 | .mk kind n p s args,rows,d,H,G,U=>by
  obtain⟨h1,h2⟩:=jF H;obtain⟨_,D,_,_,_,_,S,Q,oM⟩:=mh h1;simp only[b8]at G U;have IQ:=fP args;have K:=zX h2;have N:∀x∈args,∀rows:List CV,rows.length+12*b8 x<=1000000000000->fG 147 [.v (.own 1 rows),.v (.c (aX x))] [.own 1 (rows++cD (dR x))] []:=fun x O rows U=>Ge x rows (d+1) (K x O) SB U;have A:=vu args (d+1) h2 bn;have b3:=ql (n:=(args.length:Int)) gS gS;have b2:=ql (n:=(s.length:Int)) gS gS;rcases D with rfl|rfl|⟨rfl,hp⟩|rfl
  ·rw[RF];have Y:=wF (rows++[CV.int .u8 (IntKind.u8.wrap 0)]) n S Q sx;refine bt.tQ Tryz.func147 rfl (fun args w=>Tryz.call147 args w) (Nat.le_of_ble_eq_true rfl) [(0,.own (.tok 1000000 0) 1 (rows)),(1,.c (aX (.mk 0 n p s args)))] [] [(1000000,0)] [1000000] rfl rfl fun β=>?_;have hf:=Tryz.func147
   repeat' (first|refine nP ?_|refine zr ?_ ?_|(refine zc ?_ ?_<;>intro h<;>first|(cases h;done)|rw[h]|skip)|refine lE ?_ (hq:=Y) (hok:=by exact⟨_,_,rfl,rfl,⟨_,_,rfl,rfl,rfl⟩⟩)|(refine uA rfl ?_ ?_<;>(try (show(_:Nat)*_<=_;dsimp only))))
   ·simp only[aac,aad];omega
   ·show(_:List LV)=_;rw[lR];simp;rfl
  ·rw[RG];have Y:=wF (rows++[CV.int .u8 (IntKind.u8.wrap 1)]) (s.length:Int) gS gS sx;refine bt.tQ Tryz.func147 rfl (fun args w=>Tryz.call147 args w) (Nat.le_of_ble_eq_true rfl) [(0,.own (.tok 1000000 0) 1 (rows)),(1,.c (aX (.mk 1 n p s args)))] [] [(1000000,0)] [1000000] rfl rfl fun β=>?_;have hf:=Tryz.func147
   repeat' (first|refine nP ?_|refine zr ?_ ?_|(refine zc ?_ ?_<;>intro h<;>first|(cases h;done)|rw[h]|skip)|refine lE ?_ (hq:=Y) (hok:=by exact⟨_,_,rfl,rfl,⟨_,_,rfl,rfl,rfl⟩⟩)|(refine uA rfl ?_ ?_<;>(try (show(_:Nat)*_<=_;dsimp only))))
   ·simp only[aac,aad];omega
   ·simp only[aas,List.length_map,aac,aad];omega
   ·show(_:List LV)=_;rw[lR,mT];simp;rfl
  ·rw[RH];have Y:=wF (rows++[CV.int .u8 (IntKind.u8.wrap 2)]++[CV.int .u8 (IntKind.u8.wrap p)]) (((aI args).length:Nat):Int) RN RN sx;refine bt.tQ Tryz.func147 rfl (fun args w=>Tryz.call147 args w) (Nat.le_of_ble_eq_true rfl) [(0,.own (.tok 1000000 0) 1 (rows)),(1,.c (aX (.mk 2 n p s args)))] [] [(1000000,0)] [1000000] rfl rfl fun β=>?_;have hf:=Tryz.func147
   repeat' (first|refine nP ?_|refine zr ?_ ?_|(refine zc ?_ ?_<;>intro h<;>first|(cases h;done)|rw[h]|skip)|refine lE ?_ (hq:=Y) (hok:=by exact⟨_,_,rfl,rfl,⟨_,_,rfl,rfl,rfl⟩⟩)|(refine uA rfl ?_ ?_<;>(try (show(_:Nat)*_<=_;dsimp only))))
   ·simp only[aac,aad];omega
   ·simp only[aas,aac,aad];omega
   ·have V:rows++[CV.int .u8 (IntKind.u8.wrap 2)]++[CV.int .u8 (IntKind.u8.wrap p)]++cD (jd (((aI args).length:Nat):Int))=rows++cD ([Go.cq.byteOf 2,Go.cq.byteOf p]++jd (args.length:Int)):=by
     rw[br,mT,lR,lR,nB,nB];simp
    refine AK.fW [(3,3)] [(1000000,(0,some 445000000))] (env':=[(47,.c (.int .i64 (0:Nat))),(46,.c (.int .i64 (aI args).length)),(45,.c (.sl 5 (aI args))),(0,.own (.tok 1000000 0) 1 (rows++cD ([Go.cq.byteOf 2,Go.cq.byteOf p]++jd (args.length:Int)))),(3,.ptr 3 0)])
     (bs':=[(3,[.c (.int .i64 2),.c (.int .i64 n),.c (.int .i64 p),.c (.str s),.c (.sl 5 (aI args))])]) (ts':=[(1000000,0)]) (us':=[3,1000000])
     ⟨⟨_,rfl,.inl rfl⟩,⟨_,rfl,.inl rfl⟩,⟨_,rfl,.inl rfl⟩,⟨_,rfl,⟨_,rfl,.inr ⟨_,_,rfl,rfl,congrArg (AV.own (.tok 445000000 0) 1) V⟩⟩⟩,⟨_,rfl,⟨_,rfl,rfl⟩⟩,trivial⟩ ⟨⟨_,_,rfl,rfl,⟨_,_,rfl,.inl rfl,⟨_,_,rfl,.inl rfl,⟨_,_,rfl,.inl rfl,⟨_,_,rfl,.inl rfl,⟨_,_,rfl,.inl rfl,rfl⟩⟩⟩⟩⟩⟩,trivial⟩ rfl ?_
    refine AK.eK (α:=Nat×List UInt8) (fun z=>z.1<=args.length/\[Go.cq.byteOf 2,Go.cq.byteOf p]++jd (args.length:Int)++eS args=z.2++eS (args.drop z.1)/\(rows.length+z.2.length)+12*aU (args.drop z.1)<=1000000000000) (fun z=>args.length-z.1)
     (fun z=>[(47,.c (.int .i64 z.1)),(46,.c (.int .i64 (aI args).length)),(45,.c (.sl 5 (aI args))),(0,.own (.tok 1000000 0) 1 (rows++cD z.2)),(3,.ptr 3 0)])
     (fun z=>[(3,[.c (.int .i64 2),.c (.int .i64 n),.c (.int .i64 p),.c (.str s),.c (.sl 5 (aI args))])]) (fun _=>[(1000000,0)]) [3,1000000] (0,[Go.cq.byteOf 2,Go.cq.byteOf p]++jd (args.length:Int))
     ⟨bn,c9,SD⟩ ⟨.inl rfl,.inl rfl,.inl rfl,.inl rfl,.inl rfl,trivial⟩ ⟨rfl,trivial⟩ ⟨rfl,trivial⟩ rfl rfl rfl ?_
    rintro⟨i,acc⟩ ⟨I,T,W⟩ ih;simp only at I T W;rcases fT args i I with ⟨x,O,M⟩|P
    ·have E:=lW O;have C:=bB O;rw[dV O]at W T;rw[zp]at T;simp only[aU]at W;have hq:=N x M (rows++cD acc) (by simp only[aas,List.length_map];omega);have J:=xY x (d+1) (K x M) (by have:=er M;omega);have B:rows++cD acc++cD (dR x)=rows++cD (acc++dR x):=by rw[mT,List.append_assoc]
     generalize dR x=bx at hq J B T;obtain⟨q,u,x3,x4,x5⟩:=x
     repeat' (first|refine nP ?_|refine zr ?_ ?_|(refine zc ?_ ?_<;>intro h<;>first|(cases h;done)|rw[h]|skip)|refine uI rfl (i) rfl (ef O) rfl ?_|refine lE ?_ (hq:=hq) (hok:=by exact⟨_,_,rfl,rfl,⟨_,_,rfl,rfl,rfl⟩⟩)|(refine uA rfl ?_ ?_<;>(try (show(_:Nat)*_<=_;dsimp only))))
     refine AK.fW [(3,3)] [(1000000,(0,some 545000000))] (env':=[(47,.c (.int .i64 ((i+1:Nat):Int))),(46,.c (.int .i64 (aI args).length)),(45,.c (.sl 5 (aI args))),(0,.own (.tok 1000000 0) 1 (rows++cD (acc++bx))),(3,.ptr 3 0)])
      (bs':=[(3,[.c (.int .i64 2),.c (.int .i64 n),.c (.int .i64 p),.c (.str s),.c (.sl 5 (aI args))])]) (ts':=[(1000000,0)]) (us':=[3,1000000])
      ⟨⟨_,rfl,.inl (kP (i:=i) bn)⟩,⟨_,rfl,.inl rfl⟩,⟨_,rfl,.inl rfl⟩,⟨_,rfl,⟨_,rfl,.inr ⟨_,_,rfl,rfl,congrArg (AV.own (.tok 545000000 0) 1) B⟩⟩⟩,⟨_,rfl,⟨_,rfl,rfl⟩⟩,trivial⟩ ⟨⟨_,_,rfl,rfl,⟨_,_,rfl,.inl rfl,⟨_,_,rfl,.inl rfl,⟨_,_,rfl,.inl rfl,⟨_,_,rfl,.inl rfl,⟨_,_,rfl,.inl rfl,rfl⟩⟩⟩⟩⟩⟩,trivial⟩ rfl ?_
     refine ih (i+1,acc++bx) ⟨C,by show [Go.cq.byteOf 2,Go.cq.byteOf p]++jd (args.length:Int)++eS args=_;rw[T];simp,WI⟩ fc
    ·have E:=js P;rw[P,List.drop_length,Bu,List.append_nil]at T;clear ih N
     repeat' (first|refine nP ?_|refine zr ?_ ?_|(refine zc ?_ ?_<;>intro h<;>first|(cases h;done)|rw[h]|skip)|(refine uA rfl ?_ ?_<;>(try (show(_:Nat)*_<=_;dsimp only))))
     all_goals
      show(_:List LV)=_;refine congrArg (fun l=>[LV.own 1 (rows++cD l)]) ?_;rw[<- T];simp
  ·rw[RI];have Y:=wF (rows++[CV.int .u8 (IntKind.u8.wrap 3)]) (((aI args).length:Nat):Int) RN RN sx;refine bt.tQ Tryz.func147 rfl (fun args w=>Tryz.call147 args w) (Nat.le_of_ble_eq_true rfl) [(0,.own (.tok 1000000 0) 1 (rows)),(1,.c (aX (.mk 3 n p s args)))] [] [(1000000,0)] [1000000] rfl rfl fun β=>?_;have hf:=Tryz.func147
   repeat' (first|refine nP ?_|refine zr ?_ ?_|(refine zc ?_ ?_<;>intro h<;>first|(cases h;done)|rw[h]|skip)|refine lE ?_ (hq:=Y) (hok:=by exact⟨_,_,rfl,rfl,⟨_,_,rfl,rfl,rfl⟩⟩)|(refine uA rfl ?_ ?_<;>(try (show(_:Nat)*_<=_;dsimp only))))
   ·simp only[aac,aad];omega
   ·have V:rows++[CV.int .u8 (IntKind.u8.wrap 3)]++cD (jd (((aI args).length:Nat):Int))=rows++cD ([Go.cq.byteOf 3]++jd (args.length:Int)):=by
     rw[br,mT,lR,nB];simp
    refine AK.fW [(3,3)] [(1000000,(0,some 445000000))] (env':=[(47,.c (.int .i64 (0:Nat))),(46,.c (.int .i64 (aI args).length)),(45,.c (.sl 5 (aI args))),(0,.own (.tok 1000000 0) 1 (rows++cD ([Go.cq.byteOf 3]++jd (args.length:Int)))),(3,.ptr 3 0)])
     (bs':=[(3,[.c (.int .i64 3),.c (.int .i64 n),.c (.int .i64 p),.c (.str s),.c (.sl 5 (aI args))])]) (ts':=[(1000000,0)]) (us':=[3,1000000])
     ⟨⟨_,rfl,.inl rfl⟩,⟨_,rfl,.inl rfl⟩,⟨_,rfl,.inl rfl⟩,⟨_,rfl,⟨_,rfl,.inr ⟨_,_,rfl,rfl,congrArg (AV.own (.tok 445000000 0) 1) V⟩⟩⟩,⟨_,rfl,⟨_,rfl,rfl⟩⟩,trivial⟩ ⟨⟨_,_,rfl,rfl,⟨_,_,rfl,.inl rfl,⟨_,_,rfl,.inl rfl,⟨_,_,rfl,.inl rfl,⟨_,_,rfl,.inl rfl,⟨_,_,rfl,.inl rfl,rfl⟩⟩⟩⟩⟩⟩,trivial⟩ rfl ?_
    refine AK.eK (α:=Nat×List UInt8) (fun z=>z.1<=args.length/\[Go.cq.byteOf 3]++jd (args.length:Int)++eS args=z.2++eS (args.drop z.1)/\(rows.length+z.2.length)+12*aU (args.drop z.1)<=1000000000000) (fun z=>args.length-z.1)
     (fun z=>[(47,.c (.int .i64 z.1)),(46,.c (.int .i64 (aI args).length)),(45,.c (.sl 5 (aI args))),(0,.own (.tok 1000000 0) 1 (rows++cD z.2)),(3,.ptr 3 0)])
     (fun z=>[(3,[.c (.int .i64 3),.c (.int .i64 n),.c (.int .i64 p),.c (.str s),.c (.sl 5 (aI args))])]) (fun _=>[(1000000,0)]) [3,1000000] (0,[Go.cq.byteOf 3]++jd (args.length:Int))
     ⟨bn,c9,SD⟩ ⟨.inl rfl,.inl rfl,.inl rfl,.inl rfl,.inl rfl,trivial⟩ ⟨rfl,trivial⟩ ⟨rfl,trivial⟩ rfl rfl rfl ?_
    rintro⟨i,acc⟩ ⟨I,T,W⟩ ih;simp only at I T W;rcases fT args i I with ⟨x,O,M⟩|P
    ·have E:=lW O;have C:=bB O;rw[dV O]at W T;rw[zp]at T;simp only[aU]at W;have hq:=N x M (rows++cD acc) (by simp only[aas,List.length_map];omega);have J:=xY x (d+1) (K x M) (by have:=er M;omega);have B:rows++cD acc++cD (dR x)=rows++cD (acc++dR x):=by rw[mT,List.append_assoc]
     generalize dR x=bx at hq J B T;obtain⟨q,u,x3,x4,x5⟩:=x
     repeat' (first|refine nP ?_|refine zr ?_ ?_|(refine zc ?_ ?_<;>intro h<;>first|(cases h;done)|rw[h]|skip)|refine uI rfl (i) rfl (ef O) rfl ?_|refine lE ?_ (hq:=hq) (hok:=by exact⟨_,_,rfl,rfl,⟨_,_,rfl,rfl,rfl⟩⟩)|(refine uA rfl ?_ ?_<;>(try (show(_:Nat)*_<=_;dsimp only))))
     refine AK.fW [(3,3)] [(1000000,(0,some 545000000))] (env':=[(47,.c (.int .i64 ((i+1:Nat):Int))),(46,.c (.int .i64 (aI args).length)),(45,.c (.sl 5 (aI args))),(0,.own (.tok 1000000 0) 1 (rows++cD (acc++bx))),(3,.ptr 3 0)])
      (bs':=[(3,[.c (.int .i64 3),.c (.int .i64 n),.c (.int .i64 p),.c (.str s),.c (.sl 5 (aI args))])]) (ts':=[(1000000,0)]) (us':=[3,1000000])
      ⟨⟨_,rfl,.inl (kP (i:=i) bn)⟩,⟨_,rfl,.inl rfl⟩,⟨_,rfl,.inl rfl⟩,⟨_,rfl,⟨_,rfl,.inr ⟨_,_,rfl,rfl,congrArg (AV.own (.tok 545000000 0) 1) B⟩⟩⟩,⟨_,rfl,⟨_,rfl,rfl⟩⟩,trivial⟩ ⟨⟨_,_,rfl,rfl,⟨_,_,rfl,.inl rfl,⟨_,_,rfl,.inl rfl,⟨_,_,rfl,.inl rfl,⟨_,_,rfl,.inl rfl,⟨_,_,rfl,.inl rfl,rfl⟩⟩⟩⟩⟩⟩,trivial⟩ rfl ?_
     refine ih (i+1,acc++bx) ⟨C,by show [Go.cq.byteOf 3]++jd (args.length:Int)++eS args=_;rw[T];simp,WI⟩ fc
    ·have E:=js P;rw[P,List.drop_length,Bu,List.append_nil]at T;clear ih N
     repeat' (first|refine nP ?_|refine zr ?_ ?_|(refine zc ?_ ?_<;>intro h<;>first|(cases h;done)|rw[h]|skip)|(refine uA rfl ?_ ?_<;>(try (show(_:Nat)*_<=_;dsimp only))))
     all_goals
      show(_:List LV)=_;refine congrArg (fun l=>[LV.own 1 (rows++cD l)]) ?_;rw[<- T];simp
termination_by t=>SizeOf.sizeOf t
decreasing_by
 have:=List.sizeOf_lt_of_mem O;simp at this ⊢;omega
theorem CL (n:Nd):HE n=if dG n=0 then(dR n,0)else([],dG n):=rfl
theorem G0 (n:Nd) (Y:b8 n<=8589934593):ag 140 [aX n] (.gy [.str (HE n).1,.int .i64 (HE n).2]):=by
 have h1:=pM n Y;rw[CL];by_cases E:dG n=0
 ·rw[if_pos E];rw[E]at h1;have h2:=Ge n [] 1 (kr.1 E).1 Y (by simp only[aad];omega);rw[List.nil_append]at h2;generalize dR n=bx at h2;obtain⟨u,H,p,G,J⟩:=n;refine qn Tryz.func140 Tryz.call140 fun β hf=>?_;exact dq
 ·rw[if_neg E];have q:(dG n != 0)=true:=by simpa using E
  generalize dG n=e at h1 q;obtain⟨u,H,p,G,J⟩:=n;refine qn Tryz.func140 Tryz.call140 fun β hf=>?_;exact dq
theorem L6 (k:Int) (m:Nat) (I : -9223372036854775808<=k) (B:k<=9223372036854775807) (M:0<m) (W:m<=1099511627776):∃r:Nat,r<m/\ag 25 [.int .i64 k,.int .i64 m] (.int .i64 r):=by
 have Y:(m:Int)≠0:=by omega
 have V:=Int.tmod_lt_of_pos k (show(0:Int)<m by omega);have T : -(m:Int)<k.tmod m:=Int.neg_lt_of_neg_lt (by rw[<- Int.neg_tmod];exact Int.tmod_lt_of_pos (-k) bn);by_cases U:k.tmod m<0
 ·have q:decide (k.tmod m<0)=true:=aam U;refine⟨(k.tmod m+m).toNat,bn,?_⟩;refine qn Tryz.func25 Tryz.call25 fun β hf=>?_
  repeat' (first|refine nP ?_|(refine zc ?_ ?_<;>intro h<;>first|(cases h;done)|rw[h]|skip)|(first|refine ai.quo Tryz.hX kn rfl rfl rfl rfl rfl rfl rfl (Y) ?_|refine ai.rem Tryz.hX kn rfl rfl rfl rfl rfl rfl rfl (Y) ?_))
  all_goals
   show(_:CV)=_;rw[gW bn bn];exact congrArg (CV.int .i64) bn
 ·have q:decide (k.tmod m<0)=false:=aan U;refine⟨(k.tmod m).toNat,bn,?_⟩;refine qn Tryz.func25 Tryz.call25 fun β hf=>?_
  repeat' (first|refine nP ?_|(refine zc ?_ ?_<;>intro h<;>first|(cases h;done)|rw[h]|skip)|(first|refine ai.quo Tryz.hX kn rfl rfl rfl rfl rfl rfl rfl (Y) ?_|refine ai.rem Tryz.hX kn rfl rfl rfl rfl rfl rfl rfl (Y) ?_))
  all_goals
   show(_:CV)=_;exact congrArg (CV.int .i64) bn
end Go.Proofs
namespace Go.cq
section
variable {P : Program} {X : Ctx} {f : FuncId} {n : Nat} {β : jG} {R : Ending -> World -> Prop} {K : List Item} {env : Env}
theorem AK.BQ (hX:cx P X) {U:Func} (hf:P.funcs[f]?=some U) {bs:List (Nat×List AV)} {ts:List (Nat×Nat)} {us:List Nat} {rs W:List LV} {T Y:List (Nat×List LV)} {l:List AV} (I:tg X bs env U.results.toList=some l)
  (h1:zi ts rs l=some W) (h2:AF bs ts T=some Y) (E:both (tD (qj Y) (nI bs Y++nw 0 rk W l)) (distinct (fV (qz Y)))=true)
  (C:W=rs) (K:Y=T):AK P X f n β (ER β rs T) [] env ⟨bs,ts,us⟩:=by
 subst C K;intro g w a cs A;obtain⟨u,Q,S⟩:=oU hX A I;obtain⟨J,D⟩:=dW E;have hok:=zj h1;obtain⟨O,M,V⟩:=F5 A.inv hok (AH h2) J D;refine⟨.returned u,w,_,⟨u,_,rfl,?_,O,A.frame.trans M⟩,.one step_end,rfl,rfl,A.defers,rfl,U,hf,Q⟩;have H:=oz A.inv;show aK _ _ _
 match W,hok,V with
 | [],hok,V =>
  simp only[jr]at hok;subst hok;simp only[qi,aK,Rel];exact S
 | [x],hok,V =>
  simp only[jr]at hok;obtain⟨y,r,rfl,_,rfl⟩:=hok;simp only[Ay,fu]at V;obtain⟨b,r',p,B,_⟩:=V;simp at p;obtain⟨rfl,_⟩:=p;simp only[qi];exact(qK H B S).1
 | x::x'::r,hok,V =>
  simp only[jr]at hok;obtain⟨y,q,rfl,_,N,G,rfl,_,_⟩:=hok;simp only[qi];refine(qK H (b := .gy (y::N::G)) ?_ S).1;simp only[Conv];exact⟨_,rfl,V⟩
end
end Go.cq
namespace Go.cq
def cu:List UInt8->Int
 | []=>0
 | b::s=>match lg b s with
  | none=>0
  | some (n,_)=>if b.toNat/64%2=1 then -(n:Int)else n
def cZ (s:List UInt8):List UInt8:=match eU s with
 | some (_,r)=>r
 | none=>[]
def jg (s:List UInt8):Int:=match eU s with
 | some _=>0
 | none=>1
structure RX where
 n:Nd
 s:List UInt8
 k:Int
 e:Int
def dY (f:List UInt8->Int->RX):Nat->List UInt8->Int->Int->List Nd×List UInt8×Int×Int
 | 0,s,k,e=>([],s,k,e)
 | v+1,s,k,e=>if e≠0 then([],s,k,e)else
  ((f s k).n::(dY f v (f s k).s (f s k).k (f s k).e).1,(dY f v (f s k).s (f s k).k (f s k).e).2)
def iZ (f:List UInt8->Int->RX) (kind p:Int) (s:List UInt8) (k:Int):RX :=
 if jg s≠0\/cu s<0 then⟨.mk kind 0 p [] [],[],k,1⟩else
  ⟨.mk kind 0 p [] (dY f (cu s).toNat (cZ s) k 0).1,(dY f (cu s).toNat (cZ s) k 0).2.1,(dY f (cu s).toNat (cZ s) k 0).2.2.1,(dY f (cu s).toNat (cZ s) k 0).2.2.2⟩
def iB (f:List UInt8->Int->RX) (c:Nat) (s:List UInt8) (k:Int):RX :=
 if c=0 then⟨.mk 0 (cu s) 0 [] [],cZ s,k,jg s⟩
 else if c=1 then(if cu s<0\/cu s>200\/cu s>(cZ s).length then⟨.mk 1 0 0 [] [],[],k,1⟩else⟨.mk 1 0 0 ((cZ s).take (cu s).toNat) [],(cZ s).drop (cu s).toNat,k,jg s⟩)
 else if c=2 then(match s with
  | []=>⟨.mk 2 0 0 [] [],[],k,1⟩
  | p::s2=>if qO p.toNat=true then iZ f 2 p.toNat s2 k else⟨.mk 2 0 p.toNat [] [],[],k,1⟩)
 else if c=3 then iZ f 3 0 s k
 else⟨.mk c 0 0 [] [],[],k,1⟩
def mU:Nat->List UInt8->Int->RX
 | 0,_,k=>⟨sM,[],k+1,4⟩
 | g+1,s,k=>if k+1>300 then⟨sM,[],k+1,4⟩else match s with
  | []=>⟨sM,[],k+1,1⟩
  | c::s'=>iB (mU g) c.toNat s' (k+1)
theorem sE {s:List UInt8} {n:Int} {r:List UInt8} (h:eU s=some (n,r)):cu s=n/\cZ s=r/\jg s=0:=by
 refine⟨?_,by simp[cZ,h],by simp[jg,h]⟩;cases s with
 | nil=>simp[eU]at h
 | cons b s =>
  simp only[eU]at h;simp only[cu];split at h
  ·simp at h
  ·simp_all
theorem jI {s:List UInt8} (h:eU s=none):cZ s=[]/\jg s=1:=⟨by simp[cZ,h],by simp[jg,h]⟩
def rF (x:RX):Rd Nd->Prop
 | .ok n r l=>x=⟨n,r,300-(l:Int),0⟩/\l<=300
 | .no e=>x.s=[]/\x.e=e/\e≠0
theorem Ke:∀(g:Nat) (s:List UInt8) (left:Nat),left<=300->rF (mU g s (300-(left:Int))) (eZ g s left)
 | 0,s,left,A=>by simp[mU,eZ,rF]
 | g+1,s,left,A=>by
  have K:∀(v:Nat) (s:List UInt8) (left:Nat),left<=300->match mV (eZ g) v s left with
    | .ok l r Y=>dY (mU g) v s (300-(left:Int)) 0=(l,r,300-(Y:Int),0)/\Y<=300
    | .no e=>(dY (mU g) v s (300-(left:Int)) 0).2.1=[]/\(dY (mU g) v s (300-(left:Int)) 0).2.2.2=e/\e≠0:=by
   intro v
   induction v with
   | zero=>intro s left A;simp[mV,dY,A]
   | succ v Q =>
    intro s left A;have h1:=Ke g s left A;simp only[mV,dY];rw[if_neg c9];cases I:eZ g s left with
    | no e =>
     rw[I]at h1;simp only[rF]at h1;simp only;rw[h1.1,h1.2.1];cases v with
     | zero=>simp[dY,h1.2.2]
     | succ v=>simp[dY,h1.2.2]
    | ok n r l =>
     rw[I]at h1;simp only[rF]at h1;rw[h1.1];have h2:=Q r l h1.2;simp only;cases T:mV (eZ g) v r l with
     | no e=>rw[T]at h2;simp only at h2 ⊢;exact h2
     | ok q P O=>rw[T]at h2;simp only at h2 ⊢;rw[h2.1];exact⟨rfl,h2.2⟩
  have V:∀(kind p:Int) (s:List UInt8) (left:Nat),left<=300->rF (iZ (mU g) kind p s (300-(left:Int))) (oK (eZ g) kind p s left):=by
   intro kind p s left A;unfold oK iZ;cases W:eU s with
   | none=>simp[(jI W).2,rF]
   | some x =>
    obtain⟨n,r⟩:=x;obtain⟨C,U,B⟩:=sE W;rw[C,U,B];simp only;by_cases N:n<0
    ·rw[if_pos N,if_pos (.inr N)];simp[rF]
    ·rw[if_neg N,if_neg lD];have h2:=K n.toNat r left A;cases I:mV (eZ g) n.toNat r left with
     | no e=>rw[I]at h2;simp only at h2 ⊢;simp only[rF];exact h2
     | ok q P O=>rw[I]at h2;simp only at h2 ⊢;simp only[rF];rw[h2.1];exact⟨rfl,h2.2⟩
  simp only[eZ,mU];by_cases S:left=0
  ·subst S;simp[rF]
  ·rw[if_neg S,if_neg bn];cases s with
   | nil=>simp[rF]
   | cons c s =>
    simp only;have M:300-(left:Int)+1=300-((left-1:Nat):Int):=by omega
    rw[M];unfold iB rG;split
    ·cases W:eU s with
     | none=>simp[(jI W).1,(jI W).2,rF]
     | some x =>
      obtain⟨n,r⟩:=x;obtain⟨C,U,B⟩:=sE W;rw[C,U,B];simp only[rF];exact⟨trivial,bn⟩
    ·split
     ·cases W:eU s with
      | none =>
       rw[(jI W).1,(jI W).2];split<;>simp[rF]
      | some x =>
       obtain⟨n,r⟩:=x;obtain⟨C,U,B⟩:=sE W;rw[C,U,B];simp only;split
       ·simp[rF]
       ·simp only[rF];exact⟨trivial,bn⟩
     ·split
      ·cases s with
       | nil=>simp[rF]
       | cons p s =>
        simp only;split
        ·grind
        ·simp[rF]
      ·split
       ·grind
       ·simp[rF]
theorem MA:∀(g:Nat) (s:List UInt8) (k:Int),0<=k->k<=300->k+1<=(mU g s k).k/\(mU g s k).k<=301/\((mU g s k).e=0->(mU g s k).k<=300)
 | 0,s,k,U,h1=>by simp[mU];omega
 | g+1,s,k,U,h1=>by
  have S:∀(v:Nat) (s:List UInt8) (k:Int),0<=k->k<=300->k+(dY (mU g) v s k 0).1.length<=(dY (mU g) v s k 0).2.2.1/\(dY (mU g) v s k 0).2.2.1<=301/\((dY (mU g) v s k 0).2.2.2=0->(dY (mU g) v s k 0).2.2.1<=300):=by
   intro v
   induction v with
   | zero=>intro s k U h1;simp[dY];omega
   | succ v W =>
    intro s k U h1;have h2:=MA g s k U h1;simp only[dY];rw[if_neg c9];by_cases P:(mU g s k).e=0
    ·grind
    ·have Y:dY (mU g) v (mU g s k).s (mU g s k).k (mU g s k).e=([],(mU g s k).s,(mU g s k).k,(mU g s k).e):=by
      cases v with
      | zero=>rfl
      | succ v=>simp only[dY];rw[if_pos P]
     rw[Y];simp only[aac,aad];exact⟨bn,h2.2.1,fun h=>absurd h P⟩
  have K:∀(kind p:Int) (s:List UInt8) (k:Int),0<=k->k<=300->k<=(iZ (mU g) kind p s k).k/\(iZ (mU g) kind p s k).k<=301/\((iZ (mU g) kind p s k).e=0->(iZ (mU g) kind p s k).k<=300):=by
   intro kind p s k U h1;unfold iZ;split
   ·simp;omega
   ·grind
  simp only[mU];split
  ·simp;omega
  ·rename_i D;cases s with
   | nil=>simp;omega
   | cons c s =>
    simp only;unfold iB;split
    ·simp only;omega
    ·grind
end Go.cq
