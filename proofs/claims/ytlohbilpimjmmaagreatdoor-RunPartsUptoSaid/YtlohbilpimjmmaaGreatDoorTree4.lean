/- What bad, byte and number of package tree's reader answer. -/
import Derived.Test.YtlohbilpimjmmaaGreatDoorVal8
import Derived.Test.YtlohbilpimjmmaaGreatDoorBits
import Derived.Test.YtlohbilpimjmmaaGreatDoorRPure
set_option maxHeartbeats 0
set_option linter.unusedVariables false
set_option linter.unusedSimpArgs false
set_option maxRecDepth 100000
namespace Go.Proofs
open Go.cu
attribute [local irreducible] AK ai bw bz
theorem iN (s:List UInt8) (k x:Int):fJ 152 [.box [.c (.str s),.c (.int .i64 k),.c (.int .i64 0)],.v (.c (.int .i64 x))] [] [(0,[.c (.str []),.c (.int .i64 k),.c (.int .i64 x)])]:=by
 refine bz.tI Tryz.func152 rfl (fun args w=>Tryz.call152 args w) (Nat.le_of_ble_eq_true rfl) [(0,.ptr 1000000 0),(1,.c (.int .i64 x))] [(1000000,[.c (.str s),.c (.int .i64 k),.c (.int .i64 0)])] [] [1000000] rfl rfl fun β=>?_;have hf:=Tryz.func152;exact dq
theorem wJ (s:List UInt8) (k e x:Int) (P:e≠0):fJ 152 [.box [.c (.str s),.c (.int .i64 k),.c (.int .i64 e)],.v (.c (.int .i64 x))] [] [(0,[.c (.str s),.c (.int .i64 k),.c (.int .i64 e)])]:=by
 have A:(e==0)=false:=by simpa using P
 refine bz.tI Tryz.func152 rfl (fun args w=>Tryz.call152 args w) (Nat.le_of_ble_eq_true rfl) [(0,.ptr 1000000 0),(1,.c (.int .i64 x))] [(1000000,[.c (.str s),.c (.int .i64 k),.c (.int .i64 e)])] [] [1000000] rfl rfl fun β=>?_;have hf:=Tryz.func152;exact dq
theorem wK (c:UInt8) (s:List UInt8) (k e:Int):fJ 156 [.box [.c (.str (c::s)),.c (.int .i64 k),.c (.int .i64 e)]] [.c (.int .i64 c.toNat)] [(0,[.c (.str s),.c (.int .i64 k),.c (.int .i64 e)])]:=by
 have E:=c.toNat_lt;refine bz.tI Tryz.func156 rfl (fun args w=>Tryz.call156 args w) (Nat.le_of_ble_eq_true rfl) [(0,.ptr 1000000 0)] [(1000000,[.c (.str (c::s)),.c (.int .i64 k),.c (.int .i64 e)])] [] [1000000] rfl rfl fun β=>?_;have hf:=Tryz.func156
 repeat' (first|refine sz ?_|refine zr ?_ ?_|(refine zc ?_ ?_<;>intro h<;>first|(cases h;done)|rw[h]|skip)|refine ai.lH Tryz.hX kn rfl rfl rfl rfl rfl rfl (m:=0) rfl rfl ?_|refine ai.DG Tryz.hX kn rfl rfl rfl rfl rfl (l:=some 1) (h:=none) rfl rfl cn cn ?_)
 ·show(_:List LV)=_;rw[gZ bn bn]
theorem zB (k:Int):fJ 156 [.box [.c (.str []),.c (.int .i64 k),.c (.int .i64 0)]] [.c (.int .i64 0)] [(0,[.c (.str []),.c (.int .i64 k),.c (.int .i64 1)])]:=by
 have p:=iN [] k 1;refine bz.tI Tryz.func156 rfl (fun args w=>Tryz.call156 args w) (Nat.le_of_ble_eq_true rfl) [(0,.ptr 1000000 0)] [(1000000,[.c (.str []),.c (.int .i64 k),.c (.int .i64 0)])] [] [1000000] rfl rfl fun β=>?_;have hf:=Tryz.func156;exact dq
theorem KY (k e:Int) (P:e≠0):fJ 156 [.box [.c (.str []),.c (.int .i64 k),.c (.int .i64 e)]] [.c (.int .i64 0)] [(0,[.c (.str []),.c (.int .i64 k),.c (.int .i64 e)])]:=by
 have p:=wJ [] k e 1 P;refine bz.tI Tryz.func156 rfl (fun args w=>Tryz.call156 args w) (Nat.le_of_ble_eq_true rfl) [(0,.ptr 1000000 0)] [(1000000,[.c (.str []),.c (.int .i64 k),.c (.int .i64 e)])] [] [1000000] rfl rfl fun β=>?_;have hf:=Tryz.func156;exact dq
theorem TN {n c H:Nat} (O:n<2^H) (E:c<256) (Y:H<=55):IntKind.i64.wrap (((BitVec.ofInt 64 (n:Int))|||(BitVec.ofInt 64 (IntKind.i64.wrap (IntKind.i64.wrap (((BitVec.ofInt 64 (c:Int))&&&(BitVec.ofInt 64 127)).toNat)*2^(min H 64))))).toNat)=((n+c%128*2^H:Nat):Int):=by
 rw[QW bn];exact QY O bn Y
theorem QB (n H:Nat):qm [] n H=none:=rfl
theorem Gp {b:UInt8} {s:List UInt8} {n H:Nat} (h:b.toNat=0\/H>55):qm (b::s) n H=none:=by simp only[qm,if_pos h]
theorem Ny {b:UInt8} {s:List UInt8} {n H:Nat} (h:¬(b.toNat=0\/H>55)):qm (b::s) n H=if b.toNat>=128 then qm s (n+b.toNat%128*2^H) (H+7)else some (n+b.toNat%128*2^H,s):=by simp only[qm,if_neg h]
theorem x9 {b:UInt8} {s:List UInt8} (h:kX b s=none):cA (b::s)=0/\de (b::s)=[]/\ji (b::s)=1:=by
 have h2:eW (b::s)=none:=by simp only[eW,h]
 exact⟨by simp only[cA,h],(jJ h2).1,(jJ h2).2⟩
theorem AN {b:UInt8} {s:List UInt8} {n:Nat} {r:List UInt8} (h:kX b s=some (n,r)) (p:(b.toNat/64%2=1/\n=0)\/n>1152921504606846976):cA (b::s)=(if b.toNat/64%2=1 then -(n:Int)else n)/\de (b::s)=[]/\ji (b::s)=1:=by
 have h2:eW (b::s)=none:=by simp only[eW,h,if_pos p]
 exact⟨by simp only[cA,h],(jJ h2).1,(jJ h2).2⟩
theorem El {b:UInt8} {s:List UInt8} {n:Nat} {r:List UInt8} (h:kX b s=some (n,r)) (p:¬((b.toNat/64%2=1/\n=0)\/n>1152921504606846976)):cA (b::s)=(if b.toNat/64%2=1 then -(n:Int)else n)/\de (b::s)=r/\ji (b::s)=0:=by
 have h2:eW (b::s)=some (if b.toNat/64%2=1 then -(n:Int)else n,r):=by simp only[eW,h,if_neg p]
 exact sv h2
theorem nX (p:Prop) [Decidable p]:decide p=true/\p\/decide p=false/\¬p:=by grind
theorem oU (s:List UInt8) (k:Int):fJ 157 [.box [.c (.str s),.c (.int .i64 k),.c (.int .i64 0)]] [.c (.int .i64 (cA s))] [(0,[.c (.str (de s)),.c (.int .i64 k),.c (.int .i64 (ji s))])]:=by
 cases s with
 | nil =>
  have h1:=zB k;refine bz.tI Tryz.func157 rfl (fun args w=>Tryz.call157 args w) (Nat.le_of_ble_eq_true rfl) [(0,.ptr 1000000 0)] [(1000000,[.c (.str []),.c (.int .i64 k),.c (.int .i64 0)])] [] [1000000] rfl rfl fun β=>?_;have hf:=Tryz.func157
  repeat' (first|refine sz ?_|refine zr ?_ ?_|(refine zc ?_ ?_<;>intro h<;>first|(cases h;done)|rw[h]|skip)|refine jl ?_ (hq:=h1)|((first|refine zt ?_|refine zu ?_ ?_)<;>intro h<;>(fail_if_success (cases h;done))<;>rw[h]))
  refine AK.eM (α:=Unit) (fun _=>True) (fun _=>0)
   (fun _=>[(3,.c (.int .i64 0)),(4,.c (.bool (decide ((0:Nat)/64%2=1)))),(5,.c (.int .i64 ((0%64:Nat):Int))),(0,.ptr 1000000 0)])
   (fun _=>[(1000000,[.c (.str []),.c (.int .i64 k),.c (.int .i64 1)])]) (fun _=>[]) [1000000] ()
   trivial ⟨.inl rfl,.inl (congrArg (fun z=>some (AV.c (CV.bool z))) (QX (c:=0) bn)),.inl (congrArg (fun z=>some (AV.c (CV.int .i64 z))) (IG (a:=0) bn)),.inl rfl,trivial⟩ ⟨rfl,trivial⟩ trivial rfl rfl rfl ?_
  rintro _ _ S;clear S;exact dq
 | cons b s =>
  have h1:=wK b s k 0;have I:=b.toNat_lt;refine bz.tI Tryz.func157 rfl (fun args w=>Tryz.call157 args w) (Nat.le_of_ble_eq_true rfl) [(0,.ptr 1000000 0)] [(1000000,[.c (.str (b::s)),.c (.int .i64 k),.c (.int .i64 0)])] [] [1000000] rfl rfl fun β=>?_;have hf:=Tryz.func157
  repeat' (first|refine sz ?_|refine zr ?_ ?_|(refine zc ?_ ?_<;>intro h<;>first|(cases h;done)|rw[h]|skip)|refine jl ?_ (hq:=h1)|((first|refine zt ?_|refine zu ?_ ?_)<;>intro h<;>(fail_if_success (cases h;done))<;>rw[h]))
  refine AK.eM (α:=Nat×Nat×Nat×List UInt8) (fun z=>z.1<256/\z.2.1<2^z.2.2.1/\z.2.2.1%7=6/\z.2.2.1<=62/\kX b s=if z.1>=128 then qm z.2.2.2 z.2.1 z.2.2.1 else some (z.2.1,z.2.2.2)) (fun z=>z.2.2.2.length)
   (fun z=>[(3,.c (.int .i64 z.1)),(4,.c (.bool (decide (b.toNat/64%2=1)))),(5,.c (.int .i64 z.2.1)),(6,.c (.int .u64 z.2.2.1)),(0,.ptr 1000000 0)])
   (fun z=>[(1000000,[.c (.str z.2.2.2),.c (.int .i64 k),.c (.int .i64 0)])]) (fun _=>[]) [1000000] (b.toNat,b.toNat%64,6,s)
   ⟨I,by show b.toNat%64<2^6;omega,rfl,by show 6<=62;omega,rfl⟩ ⟨.inl rfl,.inl (congrArg (fun z=>some (AV.c (CV.bool z))) (QX I)),.inl (congrArg (fun z=>some (AV.c (CV.int .i64 z))) (IG bn)),.inl rfl,.inl rfl,trivial⟩ ⟨rfl,trivial⟩ trivial rfl rfl rfl ?_
  rintro⟨c,n,H,r⟩ ⟨C,q,u,T,p⟩ S;simp only at C q u T p;by_cases G:c>=128
  ·have B:decide ((c:Int)>=128)=true:=aan bn;rw[if_pos G]at p;cases r with
   | nil =>
    rw[QB]at p;have h2:=zB k;have U:=wJ [] k 1 1 bn;obtain⟨Y,P,W⟩:=x9 p;rw[Y,P,W];clear S;exact dq
   | cons M r =>
    have h2:=wK M r k 0;have Q:=M.toNat_lt;by_cases N:M.toNat=0
    ·rw[Gp (.inl N)]at p;have U:=iN r k 1;obtain⟨Y,P,W⟩:=x9 p;rw[Y,P,W];have D:(((M.toNat:Nat):Int)==0)=true:=by simpa using N
     clear S;exact dq
    ·have D:(((M.toNat:Nat):Int)==0)=false:=by simpa using N
     by_cases A:H>55
     ·rw[Gp (.inr A)]at p;have U:=iN r k 1;obtain⟨Y,P,W⟩:=x9 p;rw[Y,P,W];have O:decide ((H:Int)>55)=true:=aan bn;clear S;exact dq
     ·rw[Ny bn]at p;have O:decide ((H:Int)>55)=false:=aaw bn;have hs:=congrArg (fun z=>some (AV.c (CV.int .i64 z))) (TN q Q bn);have oI:=congrArg (fun z=>some (AV.c (CV.int .u64 z))) (show IntKind.u64.wrap ((H:Int)+7)=((H+7:Nat):Int)by simp[IntKind.wrap,IntKind.bits,IntKind.signed];omega)
      repeat' (first|refine sz ?_|refine zr ?_ ?_|(refine zc ?_ ?_<;>intro h<;>first|(cases h;done)|rw[h]|skip)|refine jl ?_ (hq:=h2)|((first|refine zt ?_|refine zu ?_ ?_)<;>intro h<;>(fail_if_success (cases h;done))<;>rw[h]))
      refine AK.again (S (M.toNat,n+M.toNat%128*2^H,H+7,r) ⟨Q,?_,by show(H+7)%7=6;omega,by show H+7<=62;omega,p⟩ (by show r.length<(M::r).length;simp)) ⟨.inl rfl,.inl rfl,.inl hs,.inl oI,.inl rfl,trivial⟩ ⟨rfl,trivial⟩ trivial rfl rfl rfl;show n+M.toNat%128*2^H<2^(H+7);have h5:2^(H+7)=128*2^H:=by rw[Nat.pow_add];omega
      have h6:M.toNat%128*2^H<=127*2^H:=Nat.mul_le_mul_right _ bn;omega
  ·have B:decide ((c:Int)>=128)=false:=aaw bn;rw[if_neg G]at p;have hnb:n<9223372036854775808:=by
    have:(2:Nat)^H<=2^62:=Nat.pow_le_pow_right bn T;omega
   have E:IntKind.i64.wrap (0-(n:Int)) = -(n:Int):=by rw[gZ bn bn];omega
   clear S;rcases nX (b.toNat/64%2=1)with ⟨d1,V⟩|⟨d1,V⟩
   ·by_cases K:n=0
    ·obtain⟨Y,P,W⟩:=AN p (.inl ⟨V,K⟩);rw[Y,P,W,if_pos V];subst K;have U:=iN r k 1;exact dq
    ·have D:((n:Int)==0)=false:=by simpa using K
     by_cases J:n>1152921504606846976
     ·obtain⟨Y,P,W⟩:=AN p (.inr J);rw[Y,P,W,if_pos V];have O:decide ((n:Int)>1152921504606846976)=true:=aan bn;have U:=iN r k 1
      repeat' (first|refine sz ?_|refine zr ?_ ?_|(refine zc ?_ ?_<;>intro h<;>first|(cases h;done)|rw[h]|skip)|refine jl ?_ (hq:=U)|((first|refine zt ?_|refine zu ?_ ?_)<;>intro h<;>(fail_if_success (cases h;done))<;>rw[h]))
      all_goals first|rfl|(show(_:List LV)=_;exact congrArg (fun z=>[LV.c (CV.int .i64 z)]) E)
     ·obtain⟨Y,P,W⟩:=El p bn;rw[Y,P,W,if_pos V];have O:decide ((n:Int)>1152921504606846976)=false:=aaw bn
      repeat' (first|refine sz ?_|refine zr ?_ ?_|(refine zc ?_ ?_<;>intro h<;>first|(cases h;done)|rw[h]|skip)|((first|refine zt ?_|refine zu ?_ ?_)<;>intro h<;>(fail_if_success (cases h;done))<;>rw[h]))
      all_goals first|rfl|(show(_:List LV)=_;exact congrArg (fun z=>[LV.c (CV.int .i64 z)]) E)
   ·by_cases J:n>1152921504606846976
    ·obtain⟨Y,P,W⟩:=AN p (.inr J);rw[Y,P,W,if_neg V];have O:decide ((n:Int)>1152921504606846976)=true:=aan bn;have U:=iN r k 1;exact dq
    ·obtain⟨Y,P,W⟩:=El p bn;rw[Y,P,W,if_neg V];have O:decide ((n:Int)>1152921504606846976)=false:=aaw bn;exact dq
end Go.Proofs
