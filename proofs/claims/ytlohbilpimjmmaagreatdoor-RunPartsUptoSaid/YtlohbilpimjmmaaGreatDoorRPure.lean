/- What put and add of package tree answer. What add and Encode of package tree answer, and whether tree answers at all. Leaving a call with boxes at the end of its text. Package tree's reader as plain functions, step for step, and that it answers as trees are read. -/
import Derived.Test.YtlohbilpimjmmaaGreatDoorVal8
import Derived.Test.YtlohbilpimjmmaaGreatDoorBits
import Derived.Test.YtlohbilpimjmmaaGreatDoorLibD
import Derived.Test.YtlohbilpimjmmaaGreatDoorTPure
set_option maxHeartbeats 0
set_option linter.unusedVariables false
set_option linter.unusedSimpArgs false
namespace Go.Proofs
open Go.cu
theorem b9 (rows:List CV) (l:List UInt8) (b:UInt8) (z:Int) (h:z=(b.toNat:Int)):rows++cG l++[CV.int .u8 z]=rows++cG (l++[b]):=by
 subst h;simp[cG]
theorem DI:∀(k m c:Nat),m<128^k->(AD c m).length<=k+1
 | 0,m,c,h=>by
  obtain rfl:m=0:=by simpa using h
  rw[mm];simp
 | k+1,m,c,h=>by
  by_cases u:m=0
  ·subst u;rw[mm];simp
  ·rw[nG _ _ u];have:=DI k (m/128) (m%128) (by rw[Nat.pow_succ]at h;omega);simp only[aaa];omega
theorem qj {n:Int} (h1 : -bM<=n) (h2:n<=bM):(jc n).length<=10:=by
 unfold jc;refine DI 9 _ _ ?_;unfold bM at h1 h2;omega
attribute [local irreducible] AK ai bw bz
theorem J0 {rows:List CV} {acc:List UInt8} {c:Nat} (h:c<128):rows++cG acc++[CV.int .u8 (IntKind.u8.wrap (((BitVec.ofInt 8 (c:Int))|||(BitVec.ofInt 8 128)).toNat))]=rows++cG (acc++[Go.cu.byteOf ((c+128:Nat):Int)]):=by
 refine b9 rows acc _ _ ?_;rw[YA h,iO _ bn]
theorem Va {n:Int} (h1 : -bM<=n) (h2:n<=bM) (O:n<0):IntKind.u8.wrap (((BitVec.ofInt 8 64)|||(BitVec.ofInt 8 (IntKind.u8.wrap (IntKind.i64.wrap (((BitVec.ofInt 64 (IntKind.i64.wrap (0-n)))&&&(BitVec.ofInt 64 63)).toNat))))).toNat)=((64+n.natAbs%64:Nat):Int):=by
 unfold bM at h1 h2;rw[gZ (n:=0-n) bn bn,show 0-n=((n.natAbs:Nat):Int)from by omega,IG bn,Lp (a:=n.natAbs%64) bn];exact Uf ⟨n.natAbs%64,bn⟩
theorem SW {n:Int} (h1 : -bM<=n) (h2:n<=bM) (O:n<0):(IntKind.i64.wrap (0-n)).fdiv (2^(min 6 64))=((n.natAbs/64:Nat):Int):=by
 unfold bM at h1 h2;rw[gZ (n:=0-n) bn bn,show 0-n=((n.natAbs:Nat):Int)from by omega];exact BU n.natAbs 6
theorem Vb {n:Int} (h1 : -bM<=n) (h2:n<=bM) (O:¬n<0):IntKind.u8.wrap (((BitVec.ofInt 8 0)|||(BitVec.ofInt 8 (IntKind.u8.wrap (IntKind.i64.wrap (((BitVec.ofInt 64 n)&&&(BitVec.ofInt 64 63)).toNat))))).toNat)=((0+n.natAbs%64:Nat):Int):=by
 unfold bM at h1 h2;obtain⟨a,rfl⟩:∃a:Nat,n=a:=⟨n.toNat,bn⟩
 rw[IG bn,Lp (a:=a%64) bn];exact or_none ⟨a%64,bn⟩
theorem SX {n:Int} (h1 : -bM<=n) (h2:n<=bM) (O:¬n<0):n.fdiv (2^(min 6 64))=((n.natAbs/64:Nat):Int):=by
 obtain⟨a,rfl⟩:∃a:Nat,n=a:=⟨n.toNat,bn⟩
 exact BU a 6
theorem SY {m:Nat} (h:m<9223372036854775808):IntKind.u8.wrap (IntKind.i64.wrap (((BitVec.ofInt 64 (m:Int))&&&(BitVec.ofInt 64 127)).toNat))=((m%128:Nat):Int):=by
 rw[QW h,Lp bn]
theorem wv (rows:List CV) (n:Int) (h1 : -bM<=n) (h2:n<=bM) (C:rows.length<=1099511627776) :
  fJ 154 [.v (.own 1 rows),.v (.c (.int .i64 n))] [.own 1 (rows++cG (jc n))] []:=by
 have H:n.natAbs<=1152921504606846976:=by unfold bM at h1 h2;omega
 by_cases O:n<0
 ·have A:decide (n<0)=true:=aan O;refine bz.tI Tryz.func154 rfl (fun args w=>Tryz.call154 args w) (Nat.le_of_ble_eq_true rfl) [(0,.own (.tok 1000000 0) 1 (rows)),(1,.c (.int .i64 n))] [] [(1000000,0)] [1000000] rfl rfl fun β=>?_;have hf:=Tryz.func154
  repeat' (first|refine nK ?_|refine zr ?_ ?_|(refine zc ?_ ?_<;>intro h<;>first|(cases h;done)|rw[h]|skip)|(refine uA rfl ?_ ?_<;>(try (show(_:Nat)*_<=_;dsimp only))))
  refine AK.eM (α:=Nat×Nat×List UInt8) (fun z=>z.1<128/\z.2.1<=1152921504606846976/\z.2.2.length<=10/\jc n=z.2.2++AD z.1 z.2.1) (fun z=>z.2.1)
   (fun z=>[(5,.c (.int .u8 z.1)),(1,.c (.int .i64 z.2.1)),(0,.own (.tok 1000000 0) 1 (rows++cG z.2.2))]) (fun _=>[]) (fun _=>[(1000000,0)]) [1000000] (64+n.natAbs%64,n.natAbs/64,[])
   ⟨by show 64+n.natAbs%64<128;omega,by show n.natAbs/64<=_;omega,cn,by unfold jc;rw[if_pos O];rfl⟩ ⟨.inl (congrArg (fun z=>some (AV.c (CV.int .u8 z))) (Va h1 h2 O)),.inl (congrArg (fun z=>some (AV.c (CV.int .i64 z))) (SW h1 h2 O)),.inl (congrArg (fun l=>some (AV.own (.tok 1000000 0) 1 l)) (List.append_nil rows).symm),trivial⟩ trivial ⟨rfl,trivial⟩ rfl rfl rfl ?_
  rintro⟨c,m,acc⟩ ⟨E,u,V,p⟩ ih;simp only at E u V p;by_cases Y:m=0
  ·have U:decide ((m:Int)>0)=false:=aaw bn;rw[Y,mm]at p;clear ih
   repeat' (first|refine nK ?_|refine zr ?_ ?_|(refine zc ?_ ?_<;>intro h<;>first|(cases h;done)|rw[h]|skip)|(refine uA rfl ?_ ?_<;>(try (show(_:Nat)*_<=_;dsimp only))))
   ·simp only[aax,List.length_map,aaa,aab];omega
   ·show(_:List LV)=_;rw[p];exact Yg
  ·have U:decide ((m:Int)>0)=true:=aan bn;rw[nG _ _ Y]at p;have W:=qj h1 h2;rw[p]at W;simp only[aax,aaa]at W
   repeat' (first|refine nK ?_|refine zr ?_ ?_|(refine zc ?_ ?_<;>intro h<;>first|(cases h;done)|rw[h]|skip)|(refine uA rfl ?_ ?_<;>(try (show(_:Nat)*_<=_;dsimp only))))
   ·simp only[aax,List.length_map,aaa,aab];omega
   ·refine AK.fY [] [(1000000,(0,some 1000000))] (env':=[(5,.c (.int .u8 ((m%128:Nat):Int))),(1,.c (.int .i64 ((m/128:Nat):Int))),(0,.own (.tok 1000000 0) 1 (rows++cG (acc++[Go.cu.byteOf ((c+128:Nat):Int)])))])
     (bs':=[]) (ts':=[(1000000,0)]) (us':=[1000000])
     ⟨⟨_,rfl,.inl (congrArg (fun z=>AV.c (CV.int .u8 z)) (SY (m:=m) bn))⟩,⟨_,rfl,.inl (congrArg (fun z=>AV.c (CV.int .i64 z)) (BU m 7))⟩,⟨_,rfl,⟨_,rfl,.inr ⟨_,_,rfl,rfl,congrArg (AV.own (.tok 1000000 1) 1) (J0 E)⟩⟩⟩,trivial⟩ trivial rfl ?_
    refine ih (m%128,m/128,acc++[Go.cu.byteOf ((c+128:Nat):Int)]) ⟨by show m%128<128;omega,by show m/128<=_;omega,q6,by show jc n=_;rw[p];simp⟩ (by show m/128<m;omega)
 ·have A:decide (n<0)=false:=aaw O;refine bz.tI Tryz.func154 rfl (fun args w=>Tryz.call154 args w) (Nat.le_of_ble_eq_true rfl) [(0,.own (.tok 1000000 0) 1 (rows)),(1,.c (.int .i64 n))] [] [(1000000,0)] [1000000] rfl rfl fun β=>?_;have hf:=Tryz.func154
  repeat' (first|refine nK ?_|refine zr ?_ ?_|(refine zc ?_ ?_<;>intro h<;>first|(cases h;done)|rw[h]|skip)|(refine uA rfl ?_ ?_<;>(try (show(_:Nat)*_<=_;dsimp only))))
  refine AK.eM (α:=Nat×Nat×List UInt8) (fun z=>z.1<128/\z.2.1<=1152921504606846976/\z.2.2.length<=10/\jc n=z.2.2++AD z.1 z.2.1) (fun z=>z.2.1)
   (fun z=>[(5,.c (.int .u8 z.1)),(1,.c (.int .i64 z.2.1)),(0,.own (.tok 1000000 0) 1 (rows++cG z.2.2))]) (fun _=>[]) (fun _=>[(1000000,0)]) [1000000] (0+n.natAbs%64,n.natAbs/64,[])
   ⟨by show 0+n.natAbs%64<128;omega,by show n.natAbs/64<=_;omega,cn,by unfold jc;rw[if_neg O];rfl⟩ ⟨.inl (congrArg (fun z=>some (AV.c (CV.int .u8 z))) (Vb h1 h2 O)),.inl (congrArg (fun z=>some (AV.c (CV.int .i64 z))) (SX h1 h2 O)),.inl (congrArg (fun l=>some (AV.own (.tok 1000000 0) 1 l)) (List.append_nil rows).symm),trivial⟩ trivial ⟨rfl,trivial⟩ rfl rfl rfl ?_
  rintro⟨c,m,acc⟩ ⟨E,u,V,p⟩ ih;simp only at E u V p;by_cases Y:m=0
  ·have U:decide ((m:Int)>0)=false:=aaw bn;rw[Y,mm]at p;clear ih
   repeat' (first|refine nK ?_|refine zr ?_ ?_|(refine zc ?_ ?_<;>intro h<;>first|(cases h;done)|rw[h]|skip)|(refine uA rfl ?_ ?_<;>(try (show(_:Nat)*_<=_;dsimp only))))
   ·simp only[aax,List.length_map,aaa,aab];omega
   ·show(_:List LV)=_;rw[p];exact Yg
  ·have U:decide ((m:Int)>0)=true:=aan bn;rw[nG _ _ Y]at p;have W:=qj h1 h2;rw[p]at W;simp only[aax,aaa]at W
   repeat' (first|refine nK ?_|refine zr ?_ ?_|(refine zc ?_ ?_<;>intro h<;>first|(cases h;done)|rw[h]|skip)|(refine uA rfl ?_ ?_<;>(try (show(_:Nat)*_<=_;dsimp only))))
   ·simp only[aax,List.length_map,aaa,aab];omega
   ·refine AK.fY [] [(1000000,(0,some 1000000))] (env':=[(5,.c (.int .u8 ((m%128:Nat):Int))),(1,.c (.int .i64 ((m/128:Nat):Int))),(0,.own (.tok 1000000 0) 1 (rows++cG (acc++[Go.cu.byteOf ((c+128:Nat):Int)])))])
     (bs':=[]) (ts':=[(1000000,0)]) (us':=[1000000])
     ⟨⟨_,rfl,.inl (congrArg (fun z=>AV.c (CV.int .u8 z)) (SY (m:=m) bn))⟩,⟨_,rfl,.inl (congrArg (fun z=>AV.c (CV.int .i64 z)) (BU m 7))⟩,⟨_,rfl,⟨_,rfl,.inr ⟨_,_,rfl,rfl,congrArg (AV.own (.tok 1000000 1) 1) (J0 E)⟩⟩⟩,trivial⟩ trivial rfl ?_
    refine ih (m%128,m/128,acc++[Go.cu.byteOf ((c+128:Nat):Int)]) ⟨by show m%128<128;omega,by show m/128<=_;omega,q6,by show jc n=_;rw[p];simp⟩ (by show m/128<m;omega)
end Go.Proofs
set_option maxRecDepth 100000
namespace Go.Proofs
open Go.cu
theorem zP {l:List Nd} {d:Int} (h:cU l d=0):∀x∈l,ef x d=0:=by
 induction l with
 | nil=>intro x O;simp at O
 | cons y l S =>
  intro x O;simp only[cU]at h;by_cases T:ef y d=0
  ·grind
  ·omega
mutual
theorem xR:∀(t:Nd) (d:Int),ef t d=0->bN t<=8589934593->(dU t).length<=12*bN t
 | .mk kind n p s args,d,h,Y=>by
  obtain⟨h1,h2⟩:=hM h;obtain⟨_,_,_,_,_,_,V,W,B⟩:=l8 h1;simp only[bN]at Y;have S:=eL args;have Q:=vn args (d+1) h2 bn;have H:=qj V W;have P:=qj (n:=(s.length:Int)) ga ga;have N:=qj (n:=(args.length:Int)) ga ga;simp only[dU,bN];split
  ·simp only[aaa];omega
  ·split
   ·simp only[aaa,aax];omega
   ·split
    ·simp only[aaa,aax];omega
    ·simp only[aaa,aax];omega
theorem vn:∀(l:List Nd) (d:Int),cU l d=0->aQ l<=8589934593->(eU l).length<=12*aQ l
 | [],d,_,_=>by simp[eU]
 | t::l,d,h,Y=>by
  simp only[aQ]at Y;have h1:=zP h;have U:=xR t d (h1 t cn) bn;have h2:cU l d=0:=by simp only[cU]at h;rw[if_pos (h1 t cn)]at h;exact h
  have T:=vn l d h2 bn;simp only[eU,aQ,aax];omega
end
theorem Bo:eU []=[]:=rfl
theorem zg (x:Nd) (l:List Nd):eU (x::l)=dU x++eU l:=rfl
theorem Ru (n p:Int) (s:List UInt8) (args:List Nd):dU (.mk 0 n p s args)=Go.cu.byteOf 0::jc n:=by simp[dU]
theorem Rv (n p:Int) (s:List UInt8) (args:List Nd):dU (.mk 1 n p s args)=Go.cu.byteOf 1::(jc (s.length:Int)++s):=by simp[dU]
theorem Rw (n p:Int) (s:List UInt8) (args:List Nd):dU (.mk 2 n p s args)=Go.cu.byteOf 2::Go.cu.byteOf p::(jc (args.length:Int)++eU args):=by simp[dU]
theorem Rx (n p:Int) (s:List UInt8) (args:List Nd):dU (.mk 3 n p s args)=Go.cu.byteOf 3::(jc (args.length:Int)++eU args):=by simp[dU]
theorem mN (a b:List UInt8):cG (a++b)=cG a++cG b:=by simp[cG]
theorem lN (b:UInt8) (l:List UInt8):cG (b::l) = .int .u8 b.toNat::cG l:=rfl
attribute [local irreducible] AK ai bw bz dU eU jc ef cU
theorem F5:∀(t:Nd) (rows:List CV) (d:Int),ef t d=0->bN t<=8589934593->rows.length+12*bN t<=1000000000000 ->
  fJ 147 [.v (.own 1 rows),.v (.c (aW t))] [.own 1 (rows++cG (dU t))] []
 | .mk kind n p s args,rows,d,K,G,U=>by
  obtain⟨h1,h2⟩:=hM K;obtain⟨_,D,_,_,_,_,C,T,oI⟩:=l8 h1;simp only[bN]at G U;have Gv:=eL args;have S:=zP h2;have Q:∀x∈args,∀rows:List CV,rows.length+12*bN x<=1000000000000->fJ 147 [.v (.own 1 rows),.v (.c (aW x))] [.own 1 (rows++cG (dU x))] []:=fun x O rows U=>F5 x rows (d+1) (S x O) N8 U;have B:=vn args (d+1) h2 bn;have b3:=qj (n:=(args.length:Int)) ga ga;have b2:=qj (n:=(s.length:Int)) ga ga;rcases D with rfl|rfl|⟨rfl,hp⟩|rfl
  ·rw[Ru];have Y:=wv (rows++[CV.int .u8 (IntKind.u8.wrap 0)]) n C T q6;refine bz.tI Tryz.func147 rfl (fun args w=>Tryz.call147 args w) (Nat.le_of_ble_eq_true rfl) [(0,.own (.tok 1000000 0) 1 (rows)),(1,.c (aW (.mk 0 n p s args)))] [] [(1000000,0)] [1000000] rfl rfl fun β=>?_;have hf:=Tryz.func147
   repeat' (first|refine nK ?_|refine zr ?_ ?_|(refine zc ?_ ?_<;>intro h<;>first|(cases h;done)|rw[h]|skip)|refine jl ?_ (hq:=Y) (hok:=by exact⟨_,_,rfl,rfl,⟨_,_,rfl,rfl,rfl⟩⟩)|(refine uA rfl ?_ ?_<;>(try (show(_:Nat)*_<=_;dsimp only))))
   ·simp only[aaa,aab];omega
   ·show(_:List LV)=_;rw[lN];simp;rfl
  ·rw[Rv];have Y:=wv (rows++[CV.int .u8 (IntKind.u8.wrap 1)]) (s.length:Int) ga ga q6;refine bz.tI Tryz.func147 rfl (fun args w=>Tryz.call147 args w) (Nat.le_of_ble_eq_true rfl) [(0,.own (.tok 1000000 0) 1 (rows)),(1,.c (aW (.mk 1 n p s args)))] [] [(1000000,0)] [1000000] rfl rfl fun β=>?_;have hf:=Tryz.func147
   repeat' (first|refine nK ?_|refine zr ?_ ?_|(refine zc ?_ ?_<;>intro h<;>first|(cases h;done)|rw[h]|skip)|refine jl ?_ (hq:=Y) (hok:=by exact⟨_,_,rfl,rfl,⟨_,_,rfl,rfl,rfl⟩⟩)|(refine uA rfl ?_ ?_<;>(try (show(_:Nat)*_<=_;dsimp only))))
   ·simp only[aaa,aab];omega
   ·simp only[aax,List.length_map,aaa,aab];omega
   ·show(_:List LV)=_;rw[lN,mN];simp;rfl
  ·rw[Rw];have Y:=wv (rows++[CV.int .u8 (IntKind.u8.wrap 2)]++[CV.int .u8 (IntKind.u8.wrap p)]) (((aH args).length:Nat):Int) Se Se q6;refine bz.tI Tryz.func147 rfl (fun args w=>Tryz.call147 args w) (Nat.le_of_ble_eq_true rfl) [(0,.own (.tok 1000000 0) 1 (rows)),(1,.c (aW (.mk 2 n p s args)))] [] [(1000000,0)] [1000000] rfl rfl fun β=>?_;have hf:=Tryz.func147
   repeat' (first|refine nK ?_|refine zr ?_ ?_|(refine zc ?_ ?_<;>intro h<;>first|(cases h;done)|rw[h]|skip)|refine jl ?_ (hq:=Y) (hok:=by exact⟨_,_,rfl,rfl,⟨_,_,rfl,rfl,rfl⟩⟩)|(refine uA rfl ?_ ?_<;>(try (show(_:Nat)*_<=_;dsimp only))))
   ·simp only[aaa,aab];omega
   ·simp only[aax,aaa,aab];omega
   ·have V:rows++[CV.int .u8 (IntKind.u8.wrap 2)]++[CV.int .u8 (IntKind.u8.wrap p)]++cG (jc (((aH args).length:Nat):Int))=rows++cG ([Go.cu.byteOf 2,Go.cu.byteOf p]++jc (args.length:Int)):=by
     rw[bq,mN,lN,lN,nr,nr];simp
    refine AK.fY [(3,3)] [(1000000,(0,some 445000000))] (env':=[(47,.c (.int .i64 (0:Nat))),(46,.c (.int .i64 (aH args).length)),(45,.c (.sl 5 (aH args))),(0,.own (.tok 1000000 0) 1 (rows++cG ([Go.cu.byteOf 2,Go.cu.byteOf p]++jc (args.length:Int)))),(3,.ptr 3 0)])
     (bs':=[(3,[.c (.int .i64 2),.c (.int .i64 n),.c (.int .i64 p),.c (.str s),.c (.sl 5 (aH args))])]) (ts':=[(1000000,0)]) (us':=[3,1000000])
     ⟨⟨_,rfl,.inl rfl⟩,⟨_,rfl,.inl rfl⟩,⟨_,rfl,.inl rfl⟩,⟨_,rfl,⟨_,rfl,.inr ⟨_,_,rfl,rfl,congrArg (AV.own (.tok 445000000 0) 1) V⟩⟩⟩,⟨_,rfl,⟨_,rfl,rfl⟩⟩,trivial⟩ ⟨⟨_,_,rfl,rfl,⟨_,_,rfl,.inl rfl,⟨_,_,rfl,.inl rfl,⟨_,_,rfl,.inl rfl,⟨_,_,rfl,.inl rfl,⟨_,_,rfl,.inl rfl,rfl⟩⟩⟩⟩⟩⟩,trivial⟩ rfl ?_
    refine AK.eM (α:=Nat×List UInt8) (fun z=>z.1<=args.length/\[Go.cu.byteOf 2,Go.cu.byteOf p]++jc (args.length:Int)++eU args=z.2++eU (args.drop z.1)/\(rows.length+z.2.length)+12*aQ (args.drop z.1)<=1000000000000) (fun z=>args.length-z.1)
     (fun z=>[(47,.c (.int .i64 z.1)),(46,.c (.int .i64 (aH args).length)),(45,.c (.sl 5 (aH args))),(0,.own (.tok 1000000 0) 1 (rows++cG z.2)),(3,.ptr 3 0)])
     (fun z=>[(3,[.c (.int .i64 2),.c (.int .i64 n),.c (.int .i64 p),.c (.str s),.c (.sl 5 (aH args))])]) (fun _=>[(1000000,0)]) [3,1000000] (0,[Go.cu.byteOf 2,Go.cu.byteOf p]++jc (args.length:Int))
     ⟨bn,cn,S7⟩ ⟨.inl rfl,.inl rfl,.inl rfl,.inl rfl,.inl rfl,trivial⟩ ⟨rfl,trivial⟩ ⟨rfl,trivial⟩ rfl rfl rfl ?_
    rintro⟨i,acc⟩ ⟨I,W,J⟩ ih;simp only at I W J;rcases gf args i I with ⟨x,O,u⟩|P
    ·have E:=lq O;have H:=bD O;rw[dO O]at J W;rw[zg]at W;simp only[aQ]at J;have hq:=Q x u (rows++cG acc) (by simp only[aax,List.length_map];omega);have N:=xR x (d+1) (S x u) (by have:=ee u;omega);have M:rows++cG acc++cG (dU x)=rows++cG (acc++dU x):=by rw[mN,List.append_assoc]
     generalize dU x=bx at hq N M W;obtain⟨A,q,x3,x4,x5⟩:=x
     repeat' (first|refine nK ?_|refine zr ?_ ?_|(refine zc ?_ ?_<;>intro h<;>first|(cases h;done)|rw[h]|skip)|refine uI rfl (i) rfl (dX O) rfl ?_|refine jl ?_ (hq:=hq) (hok:=by exact⟨_,_,rfl,rfl,⟨_,_,rfl,rfl,rfl⟩⟩)|(refine uA rfl ?_ ?_<;>(try (show(_:Nat)*_<=_;dsimp only))))
     refine AK.fY [(3,3)] [(1000000,(0,some 545000000))] (env':=[(47,.c (.int .i64 ((i+1:Nat):Int))),(46,.c (.int .i64 (aH args).length)),(45,.c (.sl 5 (aH args))),(0,.own (.tok 1000000 0) 1 (rows++cG (acc++bx))),(3,.ptr 3 0)])
      (bs':=[(3,[.c (.int .i64 2),.c (.int .i64 n),.c (.int .i64 p),.c (.str s),.c (.sl 5 (aH args))])]) (ts':=[(1000000,0)]) (us':=[3,1000000])
      ⟨⟨_,rfl,.inl (kL (i:=i) bn)⟩,⟨_,rfl,.inl rfl⟩,⟨_,rfl,.inl rfl⟩,⟨_,rfl,⟨_,rfl,.inr ⟨_,_,rfl,rfl,congrArg (AV.own (.tok 545000000 0) 1) M⟩⟩⟩,⟨_,rfl,⟨_,rfl,rfl⟩⟩,trivial⟩ ⟨⟨_,_,rfl,rfl,⟨_,_,rfl,.inl rfl,⟨_,_,rfl,.inl rfl,⟨_,_,rfl,.inl rfl,⟨_,_,rfl,.inl rfl,⟨_,_,rfl,.inl rfl,rfl⟩⟩⟩⟩⟩⟩,trivial⟩ rfl ?_
     refine ih (i+1,acc++bx) ⟨H,by show [Go.cu.byteOf 2,Go.cu.byteOf p]++jc (args.length:Int)++eU args=_;rw[W];simp,Xc⟩ fc
    ·have E:=iX P;rw[P,List.drop_length,Bo,List.append_nil]at W;clear ih Q
     repeat' (first|refine nK ?_|refine zr ?_ ?_|(refine zc ?_ ?_<;>intro h<;>first|(cases h;done)|rw[h]|skip)|(refine uA rfl ?_ ?_<;>(try (show(_:Nat)*_<=_;dsimp only))))
     all_goals
      show(_:List LV)=_;refine congrArg (fun l=>[LV.own 1 (rows++cG l)]) ?_;rw[<- W];simp
  ·rw[Rx];have Y:=wv (rows++[CV.int .u8 (IntKind.u8.wrap 3)]) (((aH args).length:Nat):Int) Se Se q6;refine bz.tI Tryz.func147 rfl (fun args w=>Tryz.call147 args w) (Nat.le_of_ble_eq_true rfl) [(0,.own (.tok 1000000 0) 1 (rows)),(1,.c (aW (.mk 3 n p s args)))] [] [(1000000,0)] [1000000] rfl rfl fun β=>?_;have hf:=Tryz.func147
   repeat' (first|refine nK ?_|refine zr ?_ ?_|(refine zc ?_ ?_<;>intro h<;>first|(cases h;done)|rw[h]|skip)|refine jl ?_ (hq:=Y) (hok:=by exact⟨_,_,rfl,rfl,⟨_,_,rfl,rfl,rfl⟩⟩)|(refine uA rfl ?_ ?_<;>(try (show(_:Nat)*_<=_;dsimp only))))
   ·simp only[aaa,aab];omega
   ·have V:rows++[CV.int .u8 (IntKind.u8.wrap 3)]++cG (jc (((aH args).length:Nat):Int))=rows++cG ([Go.cu.byteOf 3]++jc (args.length:Int)):=by
     rw[bq,mN,lN,nr];simp
    refine AK.fY [(3,3)] [(1000000,(0,some 445000000))] (env':=[(47,.c (.int .i64 (0:Nat))),(46,.c (.int .i64 (aH args).length)),(45,.c (.sl 5 (aH args))),(0,.own (.tok 1000000 0) 1 (rows++cG ([Go.cu.byteOf 3]++jc (args.length:Int)))),(3,.ptr 3 0)])
     (bs':=[(3,[.c (.int .i64 3),.c (.int .i64 n),.c (.int .i64 p),.c (.str s),.c (.sl 5 (aH args))])]) (ts':=[(1000000,0)]) (us':=[3,1000000])
     ⟨⟨_,rfl,.inl rfl⟩,⟨_,rfl,.inl rfl⟩,⟨_,rfl,.inl rfl⟩,⟨_,rfl,⟨_,rfl,.inr ⟨_,_,rfl,rfl,congrArg (AV.own (.tok 445000000 0) 1) V⟩⟩⟩,⟨_,rfl,⟨_,rfl,rfl⟩⟩,trivial⟩ ⟨⟨_,_,rfl,rfl,⟨_,_,rfl,.inl rfl,⟨_,_,rfl,.inl rfl,⟨_,_,rfl,.inl rfl,⟨_,_,rfl,.inl rfl,⟨_,_,rfl,.inl rfl,rfl⟩⟩⟩⟩⟩⟩,trivial⟩ rfl ?_
    refine AK.eM (α:=Nat×List UInt8) (fun z=>z.1<=args.length/\[Go.cu.byteOf 3]++jc (args.length:Int)++eU args=z.2++eU (args.drop z.1)/\(rows.length+z.2.length)+12*aQ (args.drop z.1)<=1000000000000) (fun z=>args.length-z.1)
     (fun z=>[(47,.c (.int .i64 z.1)),(46,.c (.int .i64 (aH args).length)),(45,.c (.sl 5 (aH args))),(0,.own (.tok 1000000 0) 1 (rows++cG z.2)),(3,.ptr 3 0)])
     (fun z=>[(3,[.c (.int .i64 3),.c (.int .i64 n),.c (.int .i64 p),.c (.str s),.c (.sl 5 (aH args))])]) (fun _=>[(1000000,0)]) [3,1000000] (0,[Go.cu.byteOf 3]++jc (args.length:Int))
     ⟨bn,cn,S7⟩ ⟨.inl rfl,.inl rfl,.inl rfl,.inl rfl,.inl rfl,trivial⟩ ⟨rfl,trivial⟩ ⟨rfl,trivial⟩ rfl rfl rfl ?_
    rintro⟨i,acc⟩ ⟨I,W,J⟩ ih;simp only at I W J;rcases gf args i I with ⟨x,O,u⟩|P
    ·have E:=lq O;have H:=bD O;rw[dO O]at J W;rw[zg]at W;simp only[aQ]at J;have hq:=Q x u (rows++cG acc) (by simp only[aax,List.length_map];omega);have N:=xR x (d+1) (S x u) (by have:=ee u;omega);have M:rows++cG acc++cG (dU x)=rows++cG (acc++dU x):=by rw[mN,List.append_assoc]
     generalize dU x=bx at hq N M W;obtain⟨A,q,x3,x4,x5⟩:=x
     repeat' (first|refine nK ?_|refine zr ?_ ?_|(refine zc ?_ ?_<;>intro h<;>first|(cases h;done)|rw[h]|skip)|refine uI rfl (i) rfl (dX O) rfl ?_|refine jl ?_ (hq:=hq) (hok:=by exact⟨_,_,rfl,rfl,⟨_,_,rfl,rfl,rfl⟩⟩)|(refine uA rfl ?_ ?_<;>(try (show(_:Nat)*_<=_;dsimp only))))
     refine AK.fY [(3,3)] [(1000000,(0,some 545000000))] (env':=[(47,.c (.int .i64 ((i+1:Nat):Int))),(46,.c (.int .i64 (aH args).length)),(45,.c (.sl 5 (aH args))),(0,.own (.tok 1000000 0) 1 (rows++cG (acc++bx))),(3,.ptr 3 0)])
      (bs':=[(3,[.c (.int .i64 3),.c (.int .i64 n),.c (.int .i64 p),.c (.str s),.c (.sl 5 (aH args))])]) (ts':=[(1000000,0)]) (us':=[3,1000000])
      ⟨⟨_,rfl,.inl (kL (i:=i) bn)⟩,⟨_,rfl,.inl rfl⟩,⟨_,rfl,.inl rfl⟩,⟨_,rfl,⟨_,rfl,.inr ⟨_,_,rfl,rfl,congrArg (AV.own (.tok 545000000 0) 1) M⟩⟩⟩,⟨_,rfl,⟨_,rfl,rfl⟩⟩,trivial⟩ ⟨⟨_,_,rfl,rfl,⟨_,_,rfl,.inl rfl,⟨_,_,rfl,.inl rfl,⟨_,_,rfl,.inl rfl,⟨_,_,rfl,.inl rfl,⟨_,_,rfl,.inl rfl,rfl⟩⟩⟩⟩⟩⟩,trivial⟩ rfl ?_
     refine ih (i+1,acc++bx) ⟨H,by show [Go.cu.byteOf 3]++jc (args.length:Int)++eU args=_;rw[W];simp,Xc⟩ fc
    ·have E:=iX P;rw[P,List.drop_length,Bo,List.append_nil]at W;clear ih Q
     repeat' (first|refine nK ?_|refine zr ?_ ?_|(refine zc ?_ ?_<;>intro h<;>first|(cases h;done)|rw[h]|skip)|(refine uA rfl ?_ ?_<;>(try (show(_:Nat)*_<=_;dsimp only))))
     all_goals
      show(_:List LV)=_;refine congrArg (fun l=>[LV.own 1 (rows++cG l)]) ?_;rw[<- W];simp
termination_by t=>SizeOf.sizeOf t
decreasing_by
 have:=List.sizeOf_lt_of_mem O;simp at this ⊢;omega
theorem CF (n:Nd):Ht n=if dj n=0 then(dU n,0)else([],dj n):=rfl
theorem GN (n:Nd) (O:bN n<=8589934593):ah 140 [aW n] (.gB [.str (Ht n).1,.int .i64 (Ht n).2]):=by
 have h1:=pJ n O;rw[CF];by_cases Q:dj n=0
 ·rw[if_pos Q];rw[Q]at h1;have h2:=F5 n [] 1 (gr.1 Q).1 O (by simp only[aab];omega);rw[List.nil_append]at h2;generalize dU n=bx at h2;obtain⟨u,C,G,K,Y⟩:=n;refine qn Tryz.func140 Tryz.call140 fun β hf=>?_;exact dq
 ·rw[if_neg Q];have W:(dj n != 0)=true:=by simpa using Q
  generalize dj n=e at h1 W;obtain⟨u,C,G,K,Y⟩:=n;refine qn Tryz.func140 Tryz.call140 fun β hf=>?_;exact dq
theorem LU (k:Int) (m:Nat) (T : -9223372036854775808<=k) (W:k<=9223372036854775807) (u:0<m) (V:m<=1099511627776):∃r:Nat,r<m/\ah 25 [.int .i64 k,.int .i64 m] (.int .i64 r):=by
 have Y:(m:Int)≠0:=by omega
 have S:=Int.tmod_lt_of_pos k (show(0:Int)<m by omega);have Q : -(m:Int)<k.tmod m:=Int.neg_lt_of_neg_lt (by rw[<- Int.neg_tmod];exact Int.tmod_lt_of_pos (-k) bn);by_cases B:k.tmod m<0
 ·have U:decide (k.tmod m<0)=true:=aan B;refine⟨(k.tmod m+m).toNat,bn,?_⟩;refine qn Tryz.func25 Tryz.call25 fun β hf=>?_
  repeat' (first|refine nK ?_|(refine zc ?_ ?_<;>intro h<;>first|(cases h;done)|rw[h]|skip)|(first|refine ai.quo Tryz.hX kn rfl rfl rfl rfl rfl rfl rfl (Y) ?_|refine ai.rem Tryz.hX kn rfl rfl rfl rfl rfl rfl rfl (Y) ?_))
  all_goals
   show(_:CV)=_;rw[gZ bn bn];exact congrArg (CV.int .i64) bn
 ·have U:decide (k.tmod m<0)=false:=aaw B;refine⟨(k.tmod m).toNat,bn,?_⟩;refine qn Tryz.func25 Tryz.call25 fun β hf=>?_
  repeat' (first|refine nK ?_|(refine zc ?_ ?_<;>intro h<;>first|(cases h;done)|rw[h]|skip)|(first|refine ai.quo Tryz.hX kn rfl rfl rfl rfl rfl rfl rfl (Y) ?_|refine ai.rem Tryz.hX kn rfl rfl rfl rfl rfl rfl rfl (Y) ?_))
  all_goals
   show(_:CV)=_;exact congrArg (CV.int .i64) bn
end Go.Proofs
namespace Go.cu
section
variable {P : Program} {X : Ctx} {f : FuncId} {n : Nat} {β : jH} {R : Ending -> World -> Prop} {K : List Item} {env : Env}
theorem AK.BK (hX:cC P X) {T:Func} (hf:P.funcs[f]?=some T) {bs:List (Nat×List AV)} {ts:List (Nat×Nat)} {us:List Nat} {rs W:List LV} {C Y:List (Nat×List LV)} {l:List AV} (I:s8 X bs env T.results.toList=some l)
  (h1:y8 ts rs l=some W) (h2:Ax bs ts C=some Y) (E:both (tj (qh Y) (nF bs Y++nk 0 rk W l)) (distinct (fX (qx Y)))=true)
  (A:W=rs) (U:Y=C):AK P X f n β (ER β rs C) [] env ⟨bs,ts,us⟩:=by
 subst A U;intro g w a cs N;obtain⟨u,S,D⟩:=oR hX N I;obtain⟨Q,O⟩:=dW E;have hok:=y9 h1;obtain⟨M,K,B⟩:=FV N.inv hok (Az h2) Q O;refine⟨.returned u,w,_,⟨u,_,rfl,?_,M,N.frame.trans K⟩,.one step_end,rfl,rfl,N.defers,rfl,T,hf,S⟩;have V:=ou N.inv;show aJ _ _ _
 match W,hok,B with
 | [],hok,B =>
  simp only[jt]at hok;subst hok;simp only[qg,aJ,Rel];exact D
 | [x],hok,B =>
  simp only[jt]at hok;obtain⟨y,r,rfl,_,rfl⟩:=hok;simp only[Ar,fy]at B;obtain⟨b,r',J,H,_⟩:=B;simp at J;obtain⟨rfl,_⟩:=J;simp only[qg];exact(qJ V H D).1
 | x::x'::r,hok,B =>
  simp only[jt]at hok;obtain⟨y,q,rfl,_,G,p,rfl,_,_⟩:=hok;simp only[qg];refine(qJ V (b := .gB (y::G::p)) ?_ D).1;simp only[Conv];exact⟨_,rfl,B⟩
end
end Go.cu
namespace Go.cu
def cA:List UInt8->Int
 | []=>0
 | b::s=>match kX b s with
  | none=>0
  | some (n,_)=>if b.toNat/64%2=1 then -(n:Int)else n
def de (s:List UInt8):List UInt8:=match eW s with
 | some (_,r)=>r
 | none=>[]
def ji (s:List UInt8):Int:=match eW s with
 | some _=>0
 | none=>1
structure RX where
 n:Nd
 s:List UInt8
 k:Int
 e:Int
def dZ (f:List UInt8->Int->RX):Nat->List UInt8->Int->Int->List Nd×List UInt8×Int×Int
 | 0,s,k,e=>([],s,k,e)
 | v+1,s,k,e=>if e≠0 then([],s,k,e)else
  ((f s k).n::(dZ f v (f s k).s (f s k).k (f s k).e).1,(dZ f v (f s k).s (f s k).k (f s k).e).2)
def iY (f:List UInt8->Int->RX) (kind p:Int) (s:List UInt8) (k:Int):RX :=
 if ji s≠0\/cA s<0 then⟨.mk kind 0 p [] [],[],k,1⟩else
  ⟨.mk kind 0 p [] (dZ f (cA s).toNat (de s) k 0).1,(dZ f (cA s).toNat (de s) k 0).2.1,(dZ f (cA s).toNat (de s) k 0).2.2.1,(dZ f (cA s).toNat (de s) k 0).2.2.2⟩
def iA (f:List UInt8->Int->RX) (c:Nat) (s:List UInt8) (k:Int):RX :=
 if c=0 then⟨.mk 0 (cA s) 0 [] [],de s,k,ji s⟩
 else if c=1 then(if cA s<0\/cA s>200\/cA s>(de s).length then⟨.mk 1 0 0 [] [],[],k,1⟩else⟨.mk 1 0 0 ((de s).take (cA s).toNat) [],(de s).drop (cA s).toNat,k,ji s⟩)
 else if c=2 then(match s with
  | []=>⟨.mk 2 0 0 [] [],[],k,1⟩
  | p::s2=>if qN p.toNat=true then iY f 2 p.toNat s2 k else⟨.mk 2 0 p.toNat [] [],[],k,1⟩)
 else if c=3 then iY f 3 0 s k
 else⟨.mk c 0 0 [] [],[],k,1⟩
def mP:Nat->List UInt8->Int->RX
 | 0,_,k=>⟨sE,[],k+1,4⟩
 | g+1,s,k=>if k+1>300 then⟨sE,[],k+1,4⟩else match s with
  | []=>⟨sE,[],k+1,1⟩
  | c::s'=>iA (mP g) c.toNat s' (k+1)
theorem sv {s:List UInt8} {n:Int} {r:List UInt8} (h:eW s=some (n,r)):cA s=n/\de s=r/\ji s=0:=by
 refine⟨?_,by simp[de,h],by simp[ji,h]⟩;cases s with
 | nil=>simp[eW]at h
 | cons b s =>
  simp only[eW]at h;simp only[cA];split at h
  ·simp at h
  ·simp_all
theorem jJ {s:List UInt8} (h:eW s=none):de s=[]/\ji s=1:=⟨by simp[de,h],by simp[ji,h]⟩
def rD (x:RX):Rd Nd->Prop
 | .ok n r l=>x=⟨n,r,300-(l:Int),0⟩/\l<=300
 | .no e=>x.s=[]/\x.e=e/\e≠0
theorem J1:∀(g:Nat) (s:List UInt8) (left:Nat),left<=300->rD (mP g s (300-(left:Int))) (fj g s left)
 | 0,s,left,C=>by simp[mP,fj,rD]
 | g+1,s,left,C=>by
  have K:∀(v:Nat) (s:List UInt8) (left:Nat),left<=300->match mQ (fj g) v s left with
    | .ok l r U=>dZ (mP g) v s (300-(left:Int)) 0=(l,r,300-(U:Int),0)/\U<=300
    | .no e=>(dZ (mP g) v s (300-(left:Int)) 0).2.1=[]/\(dZ (mP g) v s (300-(left:Int)) 0).2.2.2=e/\e≠0:=by
   intro v
   induction v with
   | zero=>intro s left C;simp[mQ,dZ,C]
   | succ v S =>
    intro s left C;have h1:=J1 g s left C;simp only[mQ,dZ];rw[if_neg cn];cases I:fj g s left with
    | no e =>
     rw[I]at h1;simp only[rD]at h1;simp only;rw[h1.1,h1.2.1];cases v with
     | zero=>simp[dZ,h1.2.2]
     | succ v=>simp[dZ,h1.2.2]
    | ok n r l =>
     rw[I]at h1;simp only[rD]at h1;rw[h1.1];have h2:=S r l h1.2;simp only;cases V:mQ (fj g) v r l with
     | no e=>rw[V]at h2;simp only at h2 ⊢;exact h2
     | ok Q P N=>rw[V]at h2;simp only at h2 ⊢;rw[h2.1];exact⟨rfl,h2.2⟩
  have Y:∀(kind p:Int) (s:List UInt8) (left:Nat),left<=300->rD (iY (mP g) kind p s (300-(left:Int))) (oH (fj g) kind p s left):=by
   intro kind p s left C;unfold oH iY;cases O:eW s with
   | none=>simp[(jJ O).2,rD]
   | some x =>
    obtain⟨n,r⟩:=x;obtain⟨A,E,B⟩:=sv O;rw[A,E,B];simp only;by_cases W:n<0
    ·rw[if_pos W,if_pos (.inr W)];simp[rD]
    ·rw[if_neg W,if_neg j0];have h2:=K n.toNat r left C;cases I:mQ (fj g) n.toNat r left with
     | no e=>rw[I]at h2;simp only at h2 ⊢;simp only[rD];exact h2
     | ok Q P N=>rw[I]at h2;simp only at h2 ⊢;simp only[rD];rw[h2.1];exact⟨rfl,h2.2⟩
  simp only[fj,mP];by_cases T:left=0
  ·subst T;simp[rD]
  ·rw[if_neg T,if_neg bn];cases s with
   | nil=>simp[rD]
   | cons c s =>
    simp only;have M:300-(left:Int)+1=300-((left-1:Nat):Int):=by omega
    rw[M];unfold iA rE;split
    ·cases O:eW s with
     | none=>simp[(jJ O).1,(jJ O).2,rD]
     | some x =>
      obtain⟨n,r⟩:=x;obtain⟨A,E,B⟩:=sv O;rw[A,E,B];simp only[rD];exact⟨trivial,bn⟩
    ·split
     ·cases O:eW s with
      | none =>
       rw[(jJ O).1,(jJ O).2];split<;>simp[rD]
      | some x =>
       obtain⟨n,r⟩:=x;obtain⟨A,E,B⟩:=sv O;rw[A,E,B];simp only;split
       ·simp[rD]
       ·simp only[rD];exact⟨trivial,bn⟩
     ·split
      ·cases s with
       | nil=>simp[rD]
       | cons p s =>
        simp only;split
        ·grind
        ·simp[rD]
      ·split
       ·grind
       ·simp[rD]
theorem Mn:∀(g:Nat) (s:List UInt8) (k:Int),0<=k->k<=300->k+1<=(mP g s k).k/\(mP g s k).k<=301/\((mP g s k).e=0->(mP g s k).k<=300)
 | 0,s,k,B,h1=>by simp[mP];omega
 | g+1,s,k,B,h1=>by
  have K:∀(v:Nat) (s:List UInt8) (k:Int),0<=k->k<=300->k+(dZ (mP g) v s k 0).1.length<=(dZ (mP g) v s k 0).2.2.1/\(dZ (mP g) v s k 0).2.2.1<=301/\((dZ (mP g) v s k 0).2.2.2=0->(dZ (mP g) v s k 0).2.2.1<=300):=by
   intro v
   induction v with
   | zero=>intro s k B h1;simp[dZ];omega
   | succ v S =>
    intro s k B h1;have h2:=Mn g s k B h1;simp only[dZ];rw[if_neg cn];by_cases P:(mP g s k).e=0
    ·grind
    ·have E:dZ (mP g) v (mP g s k).s (mP g s k).k (mP g s k).e=([],(mP g s k).s,(mP g s k).k,(mP g s k).e):=by
      cases v with
      | zero=>rfl
      | succ v=>simp only[dZ];rw[if_pos P]
     rw[E];simp only[aaa,aab];exact⟨bn,h2.2.1,fun h=>absurd h P⟩
  have Y:∀(kind p:Int) (s:List UInt8) (k:Int),0<=k->k<=300->k<=(iY (mP g) kind p s k).k/\(iY (mP g) kind p s k).k<=301/\((iY (mP g) kind p s k).e=0->(iY (mP g) kind p s k).k<=300):=by
   intro kind p s k B h1;unfold iY;split
   ·simp;omega
   ·grind
  simp only[mP];split
  ·simp;omega
  ·rename_i D;cases s with
   | nil=>simp;omega
   | cons c s =>
    simp only;unfold iA;split
    ·simp only;omega
    ·grind
end Go.cu
