/- What bad, byte and number of package tree's reader answer. -/
import Derived.Test.YtlohbilpimjmmaaGreatDoorVal8
import Derived.Test.YtlohbilpimjmmaaGreatDoorBits
import Derived.Test.YtlohbilpimjmmaaGreatDoorRPure
set_option maxHeartbeats 0
set_option linter.unusedVariables false
set_option linter.unusedSimpArgs false
set_option maxRecDepth 100000
namespace Go.Proofs
open Go.cq
attribute [local irreducible] AK ai bh bt
theorem iN (s:List UInt8) (k x:Int):fG 152 [.box [.c (.str s),.c (.int .i64 k),.c (.int .i64 0)],.v (.c (.int .i64 x))] [] [(0,[.c (.str []),.c (.int .i64 k),.c (.int .i64 x)])]:=by
 refine bt.tQ Tryz.func152 rfl (fun args w=>Tryz.call152 args w) (Nat.le_of_ble_eq_true rfl) [(0,.ptr 1000000 0),(1,.c (.int .i64 x))] [(1000000,[.c (.str s),.c (.int .i64 k),.c (.int .i64 0)])] [] [1000000] rfl rfl fun β=>?_;have hf:=Tryz.func152;exact dq
theorem wR (s:List UInt8) (k e x:Int) (P:e≠0):fG 152 [.box [.c (.str s),.c (.int .i64 k),.c (.int .i64 e)],.v (.c (.int .i64 x))] [] [(0,[.c (.str s),.c (.int .i64 k),.c (.int .i64 e)])]:=by
 have C:(e==0)=false:=by simpa using P
 refine bt.tQ Tryz.func152 rfl (fun args w=>Tryz.call152 args w) (Nat.le_of_ble_eq_true rfl) [(0,.ptr 1000000 0),(1,.c (.int .i64 x))] [(1000000,[.c (.str s),.c (.int .i64 k),.c (.int .i64 e)])] [] [1000000] rfl rfl fun β=>?_;have hf:=Tryz.func152;exact dq
theorem wS (c:UInt8) (s:List UInt8) (k e:Int):fG 156 [.box [.c (.str (c::s)),.c (.int .i64 k),.c (.int .i64 e)]] [.c (.int .i64 c.toNat)] [(0,[.c (.str s),.c (.int .i64 k),.c (.int .i64 e)])]:=by
 have E:=c.toNat_lt;refine bt.tQ Tryz.func156 rfl (fun args w=>Tryz.call156 args w) (Nat.le_of_ble_eq_true rfl) [(0,.ptr 1000000 0)] [(1000000,[.c (.str (c::s)),.c (.int .i64 k),.c (.int .i64 e)])] [] [1000000] rfl rfl fun β=>?_;have hf:=Tryz.func156
 repeat' (first|refine sz ?_|refine zr ?_ ?_|(refine zc ?_ ?_<;>intro h<;>first|(cases h;done)|rw[h]|skip)|refine ai.lN Tryz.hX kn rfl rfl rfl rfl rfl rfl (m:=0) rfl rfl ?_|refine ai.DI Tryz.hX kn rfl rfl rfl rfl rfl (l:=some 1) (h:=none) rfl rfl c9 c9 ?_)
 ·show(_:List LV)=_;rw[gW bn bn]
theorem zK (k:Int):fG 156 [.box [.c (.str []),.c (.int .i64 k),.c (.int .i64 0)]] [.c (.int .i64 0)] [(0,[.c (.str []),.c (.int .i64 k),.c (.int .i64 1)])]:=by
 have G:=iN [] k 1;refine bt.tQ Tryz.func156 rfl (fun args w=>Tryz.call156 args w) (Nat.le_of_ble_eq_true rfl) [(0,.ptr 1000000 0)] [(1000000,[.c (.str []),.c (.int .i64 k),.c (.int .i64 0)])] [] [1000000] rfl rfl fun β=>?_;have hf:=Tryz.func156;exact dq
theorem Lg (k e:Int) (P:e≠0):fG 156 [.box [.c (.str []),.c (.int .i64 k),.c (.int .i64 e)]] [.c (.int .i64 0)] [(0,[.c (.str []),.c (.int .i64 k),.c (.int .i64 e)])]:=by
 have G:=wR [] k e 1 P;refine bt.tQ Tryz.func156 rfl (fun args w=>Tryz.call156 args w) (Nat.le_of_ble_eq_true rfl) [(0,.ptr 1000000 0)] [(1000000,[.c (.str []),.c (.int .i64 k),.c (.int .i64 e)])] [] [1000000] rfl rfl fun β=>?_;have hf:=Tryz.func156;exact dq
theorem T9 {n c Y:Nat} (W:n<2^Y) (E:c<256) (G:Y<=55):IntKind.i64.wrap (((BitVec.ofInt 64 (n:Int))|||(BitVec.ofInt 64 (IntKind.i64.wrap (IntKind.i64.wrap (((BitVec.ofInt 64 (c:Int))&&&(BitVec.ofInt 64 127)).toNat)*2^(min Y 64))))).toNat)=((n+c%128*2^Y:Nat):Int):=by
 rw[Q6 bn];exact Q8 W bn G
theorem QK (n Y:Nat):qq [] n Y=none:=rfl
theorem GD {b:UInt8} {s:List UInt8} {n Y:Nat} (h:b.toNat=0\/Y>55):qq (b::s) n Y=none:=by simp only[qq,if_pos h]
theorem NP {b:UInt8} {s:List UInt8} {n Y:Nat} (h:¬(b.toNat=0\/Y>55)):qq (b::s) n Y=if b.toNat>=128 then qq s (n+b.toNat%128*2^Y) (Y+7)else some (n+b.toNat%128*2^Y,s):=by simp only[qq,if_neg h]
theorem yh {b:UInt8} {s:List UInt8} (h:lg b s=none):cu (b::s)=0/\cZ (b::s)=[]/\jg (b::s)=1:=by
 have h2:eU (b::s)=none:=by simp only[eU,h]
 exact⟨by simp only[cu,h],(jI h2).1,(jI h2).2⟩
theorem AU {b:UInt8} {s:List UInt8} {n:Nat} {r:List UInt8} (h:lg b s=some (n,r)) (G:(b.toNat/64%2=1/\n=0)\/n>1152921504606846976):cu (b::s)=(if b.toNat/64%2=1 then -(n:Int)else n)/\cZ (b::s)=[]/\jg (b::s)=1:=by
 have h2:eU (b::s)=none:=by simp only[eU,h,if_pos G]
 exact⟨by simp only[cu,h],(jI h2).1,(jI h2).2⟩
theorem Ev {b:UInt8} {s:List UInt8} {n:Nat} {r:List UInt8} (h:lg b s=some (n,r)) (G:¬((b.toNat/64%2=1/\n=0)\/n>1152921504606846976)):cu (b::s)=(if b.toNat/64%2=1 then -(n:Int)else n)/\cZ (b::s)=r/\jg (b::s)=0:=by
 have h2:eU (b::s)=some (if b.toNat/64%2=1 then -(n:Int)else n,r):=by simp only[eU,h,if_neg G]
 exact sE h2
theorem n9 (p:Prop) [Decidable p]:decide p=true/\p\/decide p=false/\¬p:=by grind
theorem oX (s:List UInt8) (k:Int):fG 157 [.box [.c (.str s),.c (.int .i64 k),.c (.int .i64 0)]] [.c (.int .i64 (cu s))] [(0,[.c (.str (cZ s)),.c (.int .i64 k),.c (.int .i64 (jg s))])]:=by
 cases s with
 | nil =>
  have h1:=zK k;refine bt.tQ Tryz.func157 rfl (fun args w=>Tryz.call157 args w) (Nat.le_of_ble_eq_true rfl) [(0,.ptr 1000000 0)] [(1000000,[.c (.str []),.c (.int .i64 k),.c (.int .i64 0)])] [] [1000000] rfl rfl fun β=>?_;have hf:=Tryz.func157
  repeat' (first|refine sz ?_|refine zr ?_ ?_|(refine zc ?_ ?_<;>intro h<;>first|(cases h;done)|rw[h]|skip)|refine lE ?_ (hq:=h1)|((first|refine zt ?_|refine zu ?_ ?_)<;>intro h<;>(fail_if_success (cases h;done))<;>rw[h]))
  refine AK.eK (α:=Unit) (fun _=>True) (fun _=>0)
   (fun _=>[(3,.c (.int .i64 0)),(4,.c (.bool (decide ((0:Nat)/64%2=1)))),(5,.c (.int .i64 ((0%64:Nat):Int))),(0,.ptr 1000000 0)])
   (fun _=>[(1000000,[.c (.str []),.c (.int .i64 k),.c (.int .i64 1)])]) (fun _=>[]) [1000000] ()
   trivial ⟨.inl rfl,.inl (congrArg (fun z=>some (AV.c (CV.bool z))) (Q7 (c:=0) bn)),.inl (congrArg (fun z=>some (AV.c (CV.int .i64 z))) (I2 (a:=0) bn)),.inl rfl,trivial⟩ ⟨rfl,trivial⟩ trivial rfl rfl rfl ?_
  rintro _ _ S;clear S;exact dq
 | cons b s =>
  have h1:=wS b s k 0;have G:=b.toNat_lt;refine bt.tQ Tryz.func157 rfl (fun args w=>Tryz.call157 args w) (Nat.le_of_ble_eq_true rfl) [(0,.ptr 1000000 0)] [(1000000,[.c (.str (b::s)),.c (.int .i64 k),.c (.int .i64 0)])] [] [1000000] rfl rfl fun β=>?_;have hf:=Tryz.func157
  repeat' (first|refine sz ?_|refine zr ?_ ?_|(refine zc ?_ ?_<;>intro h<;>first|(cases h;done)|rw[h]|skip)|refine lE ?_ (hq:=h1)|((first|refine zt ?_|refine zu ?_ ?_)<;>intro h<;>(fail_if_success (cases h;done))<;>rw[h]))
  refine AK.eK (α:=Nat×Nat×Nat×List UInt8) (fun z=>z.1<256/\z.2.1<2^z.2.2.1/\z.2.2.1%7=6/\z.2.2.1<=62/\lg b s=if z.1>=128 then qq z.2.2.2 z.2.1 z.2.2.1 else some (z.2.1,z.2.2.2)) (fun z=>z.2.2.2.length)
   (fun z=>[(3,.c (.int .i64 z.1)),(4,.c (.bool (decide (b.toNat/64%2=1)))),(5,.c (.int .i64 z.2.1)),(6,.c (.int .u64 z.2.2.1)),(0,.ptr 1000000 0)])
   (fun z=>[(1000000,[.c (.str z.2.2.2),.c (.int .i64 k),.c (.int .i64 0)])]) (fun _=>[]) [1000000] (b.toNat,b.toNat%64,6,s)
   ⟨G,by show b.toNat%64<2^6;omega,rfl,by show 6<=62;omega,rfl⟩ ⟨.inl rfl,.inl (congrArg (fun z=>some (AV.c (CV.bool z))) (Q7 G)),.inl (congrArg (fun z=>some (AV.c (CV.int .i64 z))) (I2 bn)),.inl rfl,.inl rfl,trivial⟩ ⟨rfl,trivial⟩ trivial rfl rfl rfl ?_
  rintro⟨c,n,Y,r⟩ ⟨C,J,B,O,T⟩ S;simp only at C J B O T;by_cases E:c>=128
  ·have u:decide ((c:Int)>=128)=true:=aam bn;rw[if_pos E]at T;cases r with
   | nil =>
    rw[QK]at T;have h2:=zK k;have Q:=wR [] k 1 1 bn;obtain⟨W,V,P⟩:=yh T;rw[W,V,P];clear S;exact dq
   | cons U r =>
    have h2:=wS U r k 0;have N:=U.toNat_lt;by_cases q:U.toNat=0
    ·rw[GD (.inl q)]at T;have Q:=iN r k 1;obtain⟨W,V,P⟩:=yh T;rw[W,V,P];have D:(((U.toNat:Nat):Int)==0)=true:=by simpa using q
     clear S;exact dq
    ·have D:(((U.toNat:Nat):Int)==0)=false:=by simpa using q
     by_cases p:Y>55
     ·rw[GD (.inr p)]at T;have Q:=iN r k 1;obtain⟨W,V,P⟩:=yh T;rw[W,V,P];have H:decide ((Y:Int)>55)=true:=aam bn;clear S;exact dq
     ·rw[NP bn]at T;have H:decide ((Y:Int)>55)=false:=aan bn;have hs:=congrArg (fun z=>some (AV.c (CV.int .i64 z))) (T9 J N bn);have oM:=congrArg (fun z=>some (AV.c (CV.int .u64 z))) (show IntKind.u64.wrap ((Y:Int)+7)=((Y+7:Nat):Int)by simp[IntKind.wrap,IntKind.bits,IntKind.signed];omega)
      repeat' (first|refine sz ?_|refine zr ?_ ?_|(refine zc ?_ ?_<;>intro h<;>first|(cases h;done)|rw[h]|skip)|refine lE ?_ (hq:=h2)|((first|refine zt ?_|refine zu ?_ ?_)<;>intro h<;>(fail_if_success (cases h;done))<;>rw[h]))
      refine AK.again (S (U.toNat,n+U.toNat%128*2^Y,Y+7,r) ⟨N,?_,by show(Y+7)%7=6;omega,by show Y+7<=62;omega,T⟩ (by show r.length<(U::r).length;simp)) ⟨.inl rfl,.inl rfl,.inl hs,.inl oM,.inl rfl,trivial⟩ ⟨rfl,trivial⟩ trivial rfl rfl rfl;show n+U.toNat%128*2^Y<2^(Y+7);have h5:2^(Y+7)=128*2^Y:=by rw[Nat.pow_add];omega
      have h6:U.toNat%128*2^Y<=127*2^Y:=Nat.mul_le_mul_right _ bn;omega
  ·have u:decide ((c:Int)>=128)=false:=aan bn;rw[if_neg E]at T;have hnb:n<9223372036854775808:=by
    have:(2:Nat)^Y<=2^62:=Nat.pow_le_pow_right bn O;omega
   have A:IntKind.i64.wrap (0-(n:Int)) = -(n:Int):=by rw[gW bn bn];omega
   clear S;rcases n9 (b.toNat/64%2=1)with ⟨d1,K⟩|⟨d1,K⟩
   ·by_cases I:n=0
    ·obtain⟨W,V,P⟩:=AU T (.inl ⟨K,I⟩);rw[W,V,P,if_pos K];subst I;have Q:=iN r k 1;exact dq
    ·have D:((n:Int)==0)=false:=by simpa using I
     by_cases M:n>1152921504606846976
     ·obtain⟨W,V,P⟩:=AU T (.inr M);rw[W,V,P,if_pos K];have H:decide ((n:Int)>1152921504606846976)=true:=aam bn;have Q:=iN r k 1
      repeat' (first|refine sz ?_|refine zr ?_ ?_|(refine zc ?_ ?_<;>intro h<;>first|(cases h;done)|rw[h]|skip)|refine lE ?_ (hq:=Q)|((first|refine zt ?_|refine zu ?_ ?_)<;>intro h<;>(fail_if_success (cases h;done))<;>rw[h]))
      all_goals first|rfl|(show(_:List LV)=_;exact congrArg (fun z=>[LV.c (CV.int .i64 z)]) A)
     ·obtain⟨W,V,P⟩:=Ev T bn;rw[W,V,P,if_pos K];have H:decide ((n:Int)>1152921504606846976)=false:=aan bn
      repeat' (first|refine sz ?_|refine zr ?_ ?_|(refine zc ?_ ?_<;>intro h<;>first|(cases h;done)|rw[h]|skip)|((first|refine zt ?_|refine zu ?_ ?_)<;>intro h<;>(fail_if_success (cases h;done))<;>rw[h]))
      all_goals first|rfl|(show(_:List LV)=_;exact congrArg (fun z=>[LV.c (CV.int .i64 z)]) A)
   ·by_cases M:n>1152921504606846976
    ·obtain⟨W,V,P⟩:=AU T (.inr M);rw[W,V,P,if_neg K];have H:decide ((n:Int)>1152921504606846976)=true:=aam bn;have Q:=iN r k 1;exact dq
    ·obtain⟨W,V,P⟩:=Ev T bn;rw[W,V,P,if_neg K];have H:decide ((n:Int)>1152921504606846976)=false:=aan bn;exact dq
end Go.Proofs
