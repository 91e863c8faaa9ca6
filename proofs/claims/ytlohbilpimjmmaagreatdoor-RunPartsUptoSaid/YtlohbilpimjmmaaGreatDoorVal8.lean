/- What prim, wrong, many and Good of package tree answer. What many and Good of package tree answer. What Has, Compare and worth answer; the laws ValueOneType and ValueOrder. What row and parse of package value answer. -/
import Derived.Test.YtlohbilpimjmmaaGreatDoorBits
import Derived.Test.YtlohbilpimjmmaaGreatDoorTPure
import Derived.Test.YtlohbilpimjmmaaGreatDoorVal3
import Derived.Test.YtlohbilpimjmmaaGreatDoorCPure
set_option maxHeartbeats 0
set_option linter.unusedVariables false
set_option linter.unusedSimpArgs false
set_option maxRecDepth 100000
namespace Go.Proofs
open Go.cu
attribute [local irreducible] AK ai bw bz
theorem lY (p:Int):ah 44 [.int .i64 p] (.bool (qN p)):=by
 refine qn Tryz.func44 Tryz.call44 fun β hf=>?_
 repeat' (first|refine sz ?_|((first|refine zt ?_|refine zu ?_ ?_)<;>intro h<;>(fail_if_success (cases h;done))<;>rw[h]))
 all_goals
  show(_:CV)=_;clear hf;simp only[cond_true,cond_false,decide_eq_true_eq,decide_eq_false_iff_not]at *;congr 1;unfold qN
  first
  | (symm;apply aan;omega)
  | (symm;apply aaw;omega)
  | (apply decide_eq_decide.2;omega)
theorem lZ {kind n p:Int} {s:List UInt8} {args:List Nd} {d e:Int} (h:fV kind n p s args.length d=e) (P:e≠0):ef (.mk kind n p s args) d=e:=by
 simp only[ef,h,if_neg P]
theorem tG {kind n p:Int} {s:List UInt8} {args:List Nd} {d:Int} (h:fV kind n p s args.length d=0):ef (.mk kind n p s args) d=cU args (d+1):=by
 simp only[ef,h,if_true]
theorem tH (d:Int):cU [] d=0:=rfl
theorem qT (x:Nd) (l:List Nd) (d:Int):cU (x::l) d=if ef x d=0 then cU l d else ef x d:=rfl
attribute [local irreducible] ef cU
theorem BC:∀(t:Nd) (d:Int),bN t<=8589934593->0<=d->d<=1099511627776-bN t->ah 33 [aW t,.int .i64 d] (.int .i64 (ef t d))
 | .mk kind n p s args=>by
  intro d ht Ln hd
  simp only[bN]at ht hd
  have Gv:=eL args
  have hin:∀x∈args,ah 33 [aW x,.int .i64 (IntKind.i64.wrap (d+1))] (.int .i64 (ef x (d+1))):=by
   intro x hx
   have:=ee hx
   rw[gZ bn bn]
   exact BC x (d+1) bn bn bn
  by_cases c1:d>24
  ·have e1:decide (d>24)=true:=aan c1
   rw[lZ (e:=4) (by simp only[fV,if_pos c1]) bn]
   refine qn Tryz.func33 Tryz.call33 fun β hf=>?_
   repeat' (first|refine sz ?_|(refine zc ?_ ?_<;>intro h<;>first|(cases h;done)|rw[h]|skip)|((first|refine zt ?_|refine zu ?_ ?_)<;>intro h<;>(fail_if_success (cases h;done))<;>rw[h]))
   all_goals rfl
  have e1:decide (d>24)=false:=aaw c1
  by_cases c2:kind<0
  ·have e2:decide (kind<0)=true:=aan c2
   rw[lZ (e:=3) (by simp only[fV,if_neg c1,c2,true_or,if_true]) bn]
   refine qn Tryz.func33 Tryz.call33 fun β hf=>?_
   exact dq
  have e2:decide (kind<0)=false:=aaw c2
  by_cases c3:kind>3
  ·have e3:decide (kind>3)=true:=aan c3
   rw[lZ (e:=3) (by simp only[fV,if_neg c1,c3,true_or,or_true,if_true]) bn]
   refine qn Tryz.func33 Tryz.call33 fun β hf=>?_
   exact dq
  have e3:decide (kind>3)=false:=aaw c3
  have h4:kind=0\/kind=1\/kind=2\/kind=3:=by omega
  rcases h4 with rfl|rfl|rfl|rfl
  ·skip
   refine qn Tryz.func33 Tryz.call33 fun β hf=>?_
   repeat' (first|refine sz ?_|(refine zc ?_ ?_<;>intro h<;>first|(cases h;done)|rw[h]|skip)|refine uC rfl (lY p) ?_|((first|refine zt ?_|refine zu ?_ ?_)<;>intro h<;>(fail_if_success (cases h;done))<;>rw[h]))
   all_goals first
     | ((show(_:CV)=_);clear hf hin;(try simp only[bq]at *);congr 1;symm;refine lZ ?_ bn;unfold fV bM;simp_all<;>(repeat' split)<;>omega)
     | skip
   all_goals
    have hw:fV (0) n p s args.length d=0:=by
     clear hf hin
     try simp only[bq]at *
     unfold fV bM
     simp_all<;>(repeat' split)<;>omega
    have hT:=tG hw
    clear hw
    refine AK.eM (α:=Nat) (fun i=>i<=args.length/\cU args (d+1)=cU (args.drop i) (d+1)) (fun i=>args.length-i)
     (fun i=>[(88,.c (.int .i64 i)),(87,.c (.int .i64 (aH args).length)),(86,.c (.sl 5 (aH args))),(1,.c (.int .i64 d))]) (fun _=>[]) (fun _=>[]) [] 0
     ⟨bn,rfl⟩ ⟨.inl rfl,.inl rfl,.inl rfl,.inl rfl,trivial⟩ trivial trivial rfl rfl rfl ?_
    rintro i ⟨hi,hinv⟩ ih
    rcases gf args i hi with ⟨x,hx,hm⟩|he
    ·have hc:=lq hx
     have hq:=hin x hm
     rw[dO hx,qT]at hinv
     obtain⟨x1,x2,x3,x4,x5⟩:=x
     by_cases h0:ef (.mk x1 x2 x3 x4 x5) (d+1)=0
     ·rw[if_pos h0]at hinv
      rw[h0]at hq
      repeat' (first|refine sz ?_|(refine zc ?_ ?_<;>intro h<;>first|(cases h;done)|rw[h]|skip)|refine uI rfl (i) rfl (dX hx) rfl ?_|refine uC rfl hq ?_|((first|refine zt ?_|refine zu ?_ ?_)<;>intro h<;>(fail_if_success (cases h;done))<;>rw[h]))
      exact XU
     ·rw[if_neg h0]at hinv
      have hne:(ef (.mk x1 x2 x3 x4 x5) (d+1) != 0)=true:=by simpa using h0
      repeat' (first|refine sz ?_|(refine zc ?_ ?_<;>intro h<;>first|(cases h;done)|rw[h]|skip)|refine uI rfl (i) rfl (dX hx) rfl ?_|refine uC rfl hq ?_|((first|refine zt ?_|refine zu ?_ ?_)<;>intro h<;>(fail_if_success (cases h;done))<;>rw[h]))
      show(_:CV)=_
      rw[hT,hinv]
    ·have hc:=iX he
     have h0:cU args (d+1)=0:=by rw[hinv,he,List.drop_length,tH]
     clear ih
     repeat' (first|refine sz ?_|(refine zc ?_ ?_<;>intro h<;>first|(cases h;done)|rw[h]|skip)|((first|refine zt ?_|refine zu ?_ ?_)<;>intro h<;>(fail_if_success (cases h;done))<;>rw[h]))
     show(_:CV)=_
     rw[hT,h0]
  ·skip
   refine qn Tryz.func33 Tryz.call33 fun β hf=>?_
   repeat' (first|refine sz ?_|(refine zc ?_ ?_<;>intro h<;>first|(cases h;done)|rw[h]|skip)|refine uC rfl (lY p) ?_|((first|refine zt ?_|refine zu ?_ ?_)<;>intro h<;>(fail_if_success (cases h;done))<;>rw[h]))
   all_goals first
     | ((show(_:CV)=_);clear hf hin;(try simp only[bq]at *);congr 1;symm;refine lZ ?_ bn;unfold fV bM;simp_all<;>(repeat' split)<;>omega)
     | skip
   all_goals
    have hw:fV (1) n p s args.length d=0:=by
     clear hf hin
     try simp only[bq]at *
     unfold fV bM
     simp_all<;>(repeat' split)<;>omega
    have hT:=tG hw
    clear hw
    refine AK.eM (α:=Nat) (fun i=>i<=args.length/\cU args (d+1)=cU (args.drop i) (d+1)) (fun i=>args.length-i)
     (fun i=>[(88,.c (.int .i64 i)),(87,.c (.int .i64 (aH args).length)),(86,.c (.sl 5 (aH args))),(1,.c (.int .i64 d))]) (fun _=>[]) (fun _=>[]) [] 0
     ⟨bn,rfl⟩ ⟨.inl rfl,.inl rfl,.inl rfl,.inl rfl,trivial⟩ trivial trivial rfl rfl rfl ?_
    rintro i ⟨hi,hinv⟩ ih
    rcases gf args i hi with ⟨x,hx,hm⟩|he
    ·have hc:=lq hx
     have hq:=hin x hm
     rw[dO hx,qT]at hinv
     obtain⟨x1,x2,x3,x4,x5⟩:=x
     by_cases h0:ef (.mk x1 x2 x3 x4 x5) (d+1)=0
     ·rw[if_pos h0]at hinv
      rw[h0]at hq
      repeat' (first|refine sz ?_|(refine zc ?_ ?_<;>intro h<;>first|(cases h;done)|rw[h]|skip)|refine uI rfl (i) rfl (dX hx) rfl ?_|refine uC rfl hq ?_|((first|refine zt ?_|refine zu ?_ ?_)<;>intro h<;>(fail_if_success (cases h;done))<;>rw[h]))
      exact XU
     ·rw[if_neg h0]at hinv
      have hne:(ef (.mk x1 x2 x3 x4 x5) (d+1) != 0)=true:=by simpa using h0
      repeat' (first|refine sz ?_|(refine zc ?_ ?_<;>intro h<;>first|(cases h;done)|rw[h]|skip)|refine uI rfl (i) rfl (dX hx) rfl ?_|refine uC rfl hq ?_|((first|refine zt ?_|refine zu ?_ ?_)<;>intro h<;>(fail_if_success (cases h;done))<;>rw[h]))
      show(_:CV)=_
      rw[hT,hinv]
    ·have hc:=iX he
     have h0:cU args (d+1)=0:=by rw[hinv,he,List.drop_length,tH]
     clear ih
     repeat' (first|refine sz ?_|(refine zc ?_ ?_<;>intro h<;>first|(cases h;done)|rw[h]|skip)|((first|refine zt ?_|refine zu ?_ ?_)<;>intro h<;>(fail_if_success (cases h;done))<;>rw[h]))
     show(_:CV)=_
     rw[hT,h0]
  ·skip
   refine qn Tryz.func33 Tryz.call33 fun β hf=>?_
   repeat' (first|refine sz ?_|(refine zc ?_ ?_<;>intro h<;>first|(cases h;done)|rw[h]|skip)|refine uC rfl (lY p) ?_|((first|refine zt ?_|refine zu ?_ ?_)<;>intro h<;>(fail_if_success (cases h;done))<;>rw[h]))
   all_goals first
     | ((show(_:CV)=_);clear hf hin;(try simp only[bq]at *);congr 1;symm;refine lZ ?_ bn;unfold fV bM;simp_all<;>(repeat' split)<;>omega)
     | skip
   all_goals
    have hw:fV (2) n p s args.length d=0:=by
     clear hf hin
     try simp only[bq]at *
     unfold fV bM
     simp_all<;>(repeat' split)<;>omega
    have hT:=tG hw
    clear hw
    refine AK.eM (α:=Nat) (fun i=>i<=args.length/\cU args (d+1)=cU (args.drop i) (d+1)) (fun i=>args.length-i)
     (fun i=>[(88,.c (.int .i64 i)),(87,.c (.int .i64 (aH args).length)),(86,.c (.sl 5 (aH args))),(1,.c (.int .i64 d))]) (fun _=>[]) (fun _=>[]) [] 0
     ⟨bn,rfl⟩ ⟨.inl rfl,.inl rfl,.inl rfl,.inl rfl,trivial⟩ trivial trivial rfl rfl rfl ?_
    rintro i ⟨hi,hinv⟩ ih
    rcases gf args i hi with ⟨x,hx,hm⟩|he
    ·have hc:=lq hx
     have hq:=hin x hm
     rw[dO hx,qT]at hinv
     obtain⟨x1,x2,x3,x4,x5⟩:=x
     by_cases h0:ef (.mk x1 x2 x3 x4 x5) (d+1)=0
     ·rw[if_pos h0]at hinv
      rw[h0]at hq
      repeat' (first|refine sz ?_|(refine zc ?_ ?_<;>intro h<;>first|(cases h;done)|rw[h]|skip)|refine uI rfl (i) rfl (dX hx) rfl ?_|refine uC rfl hq ?_|((first|refine zt ?_|refine zu ?_ ?_)<;>intro h<;>(fail_if_success (cases h;done))<;>rw[h]))
      exact XU
     ·rw[if_neg h0]at hinv
      have hne:(ef (.mk x1 x2 x3 x4 x5) (d+1) != 0)=true:=by simpa using h0
      repeat' (first|refine sz ?_|(refine zc ?_ ?_<;>intro h<;>first|(cases h;done)|rw[h]|skip)|refine uI rfl (i) rfl (dX hx) rfl ?_|refine uC rfl hq ?_|((first|refine zt ?_|refine zu ?_ ?_)<;>intro h<;>(fail_if_success (cases h;done))<;>rw[h]))
      show(_:CV)=_
      rw[hT,hinv]
    ·have hc:=iX he
     have h0:cU args (d+1)=0:=by rw[hinv,he,List.drop_length,tH]
     clear ih
     repeat' (first|refine sz ?_|(refine zc ?_ ?_<;>intro h<;>first|(cases h;done)|rw[h]|skip)|((first|refine zt ?_|refine zu ?_ ?_)<;>intro h<;>(fail_if_success (cases h;done))<;>rw[h]))
     show(_:CV)=_
     rw[hT,h0]
  ·skip
   refine qn Tryz.func33 Tryz.call33 fun β hf=>?_
   repeat' (first|refine sz ?_|(refine zc ?_ ?_<;>intro h<;>first|(cases h;done)|rw[h]|skip)|refine uC rfl (lY p) ?_|((first|refine zt ?_|refine zu ?_ ?_)<;>intro h<;>(fail_if_success (cases h;done))<;>rw[h]))
   all_goals first
     | ((show(_:CV)=_);clear hf hin;(try simp only[bq]at *);congr 1;symm;refine lZ ?_ bn;unfold fV bM;simp_all<;>(repeat' split)<;>omega)
     | skip
   all_goals
    have hw:fV (3) n p s args.length d=0:=by
     clear hf hin
     try simp only[bq]at *
     unfold fV bM
     simp_all<;>(repeat' split)<;>omega
    have hT:=tG hw
    clear hw
    refine AK.eM (α:=Nat) (fun i=>i<=args.length/\cU args (d+1)=cU (args.drop i) (d+1)) (fun i=>args.length-i)
     (fun i=>[(88,.c (.int .i64 i)),(87,.c (.int .i64 (aH args).length)),(86,.c (.sl 5 (aH args))),(1,.c (.int .i64 d))]) (fun _=>[]) (fun _=>[]) [] 0
     ⟨bn,rfl⟩ ⟨.inl rfl,.inl rfl,.inl rfl,.inl rfl,trivial⟩ trivial trivial rfl rfl rfl ?_
    rintro i ⟨hi,hinv⟩ ih
    rcases gf args i hi with ⟨x,hx,hm⟩|he
    ·have hc:=lq hx
     have hq:=hin x hm
     rw[dO hx,qT]at hinv
     obtain⟨x1,x2,x3,x4,x5⟩:=x
     by_cases h0:ef (.mk x1 x2 x3 x4 x5) (d+1)=0
     ·rw[if_pos h0]at hinv
      rw[h0]at hq
      repeat' (first|refine sz ?_|(refine zc ?_ ?_<;>intro h<;>first|(cases h;done)|rw[h]|skip)|refine uI rfl (i) rfl (dX hx) rfl ?_|refine uC rfl hq ?_|((first|refine zt ?_|refine zu ?_ ?_)<;>intro h<;>(fail_if_success (cases h;done))<;>rw[h]))
      exact XU
     ·rw[if_neg h0]at hinv
      have hne:(ef (.mk x1 x2 x3 x4 x5) (d+1) != 0)=true:=by simpa using h0
      repeat' (first|refine sz ?_|(refine zc ?_ ?_<;>intro h<;>first|(cases h;done)|rw[h]|skip)|refine uI rfl (i) rfl (dX hx) rfl ?_|refine uC rfl hq ?_|((first|refine zt ?_|refine zu ?_ ?_)<;>intro h<;>(fail_if_success (cases h;done))<;>rw[h]))
      show(_:CV)=_
      rw[hT,hinv]
    ·have hc:=iX he
     have h0:cU args (d+1)=0:=by rw[hinv,he,List.drop_length,tH]
     clear ih
     repeat' (first|refine sz ?_|(refine zc ?_ ?_<;>intro h<;>first|(cases h;done)|rw[h]|skip)|((first|refine zt ?_|refine zu ?_ ?_)<;>intro h<;>(fail_if_success (cases h;done))<;>rw[h]))
     show(_:CV)=_
     rw[hT,h0]
termination_by t=>SizeOf.sizeOf t
decreasing_by
 have:=List.sizeOf_lt_of_mem hx
 simp at this ⊢;omega
end Go.Proofs
namespace Go.Proofs
open Go.cu
theorem VM (kind n p:Int) (s:List UInt8) (args:List Nd):many (.mk kind n p s args)=cr args+1:=rfl
theorem QI:cr []=0:=rfl
theorem NK (x:Nd) (l:List Nd):cr (x::l)=many x+cr l:=rfl
mutual
theorem zU:∀t:Nd,many t<=bN t
 | .mk kind n p s args=>by have:=sU args;simp only[many,bN];omega
theorem sU:∀l:List Nd,cr l<=aQ l
 | []=>aam _
 | t::l=>by have:=zU t;have:=sU l;simp only[cr,aQ];omega
end
theorem V6 {a b:Nat} (h:a+b<1099511627776):some (AV.c (CV.int .i64 (IntKind.i64.wrap ((a:Int)+(b:Int)))))=some (AV.c (CV.int .i64 ((a+b:Nat):Int))):=by
 rw[gZ bn bn];rfl
attribute [local irreducible] AK ai bw bz many cr ef cU
theorem Eu:∀(t:Nd),bN t<=8589934593->ah 34 [aW t] (.int .i64 (many t))
 | .mk kind n p s args,Y=>by
  have V:=sU args;simp only[bN]at Y;have U:=eL args;have M:∀x∈args,ah 34 [aW x] (.int .i64 (many x)):=fun x O=>Eu x N8;rw[VM];refine qn Tryz.func34 Tryz.call34 fun β hf=>?_;refine dn ?_;refine AK.eM (α:=Nat×Nat) (fun z=>z.1<=args.length/\cr args+1=z.2+cr (args.drop z.1)) (fun z=>args.length-z.1)
   (fun z=>[(9,.c (.int .i64 z.1)),(8,.c (.int .i64 (aH args).length)),(7,.c (.sl 5 (aH args))),(3,.c (.int .i64 z.2))]) (fun _=>[]) (fun _=>[]) [] (0,1)
   ⟨bn,by rw[List.drop_zero];omega⟩ ⟨.inl rfl,.inl rfl,.inl rfl,.inl rfl,trivial⟩ trivial trivial rfl rfl rfl ?_
  rintro⟨i,m⟩ ⟨I,W⟩ ih;simp only at I W;rcases gf args i I with ⟨x,O,u⟩|P
  ·have E:=lq O;have hq:=M x u;rw[dO O,NK]at W;have h2:=bD O;generalize many x=q at hq W;obtain⟨T,S,N,H,Q⟩:=x
   repeat' (first|refine nK ?_|(refine zc ?_ ?_<;>intro h<;>first|(cases h;done)|rw[h]|skip)|refine uI rfl (i) rfl (dX O) rfl ?_|refine uC rfl hq ?_)
   refine AK.again (ih (i+1,m+q) ⟨h2,Sf⟩ fc) ⟨.inl (iD bn),.inl rfl,.inl rfl,.inl (V6 (a:=m) (b:=q) bn),trivial⟩ trivial trivial rfl rfl rfl
  ·have E:=iX P;have B:cr args+1=m:=by rw[W,P,List.drop_length,QI,Nat.add_zero]
   clear ih
   repeat' (first|refine nK ?_|(refine zc ?_ ?_<;>intro h<;>first|(cases h;done)|rw[h]|skip))
   show(_:CV)=_;rw[B]
termination_by t=>SizeOf.sizeOf t
decreasing_by
 have:=List.sizeOf_lt_of_mem O;simp at this ⊢;omega
theorem pJ (n:Nd) (O:bN n<=8589934593):ah 18 [aW n] (.int .i64 (dj n)):=by
 have h1:=BC n 1 O bn bn;have h2:=Eu n O;unfold dj;generalize ef n 1=e at h1;generalize many n=m at h2;obtain⟨u,C,G,K,W⟩:=n;by_cases Y:e=0
 ·subst Y;by_cases J:300<m
  ·have E:decide ((m:Int)>300)=true:=aan bn;simp only[J,if_true];refine qn Tryz.func18 Tryz.call18 fun β hf=>?_;exact dq
  ·have E:decide ((m:Int)>300)=false:=aaw bn;simp only[J,if_false,if_true];refine qn Tryz.func18 Tryz.call18 fun β hf=>?_;exact dq
 ·have A:(e != 0)=true:=by simpa using Y
  simp only[Y,if_false];refine qn Tryz.func18 Tryz.call18 fun β hf=>?_;exact dq
end Go.Proofs
namespace Go.Proofs
open Go.cu
attribute [local irreducible] AK ai bw bz dA bL oK bA fG dj lJ cP pI
theorem Qu (t:Ty) (v:Vl) (W:bC t<=8589934593) (V:aM v<=8589934593):ah 39 [eC t,bP v] (.bool (pI t v)):=by
 obtain⟨T,ts⟩:=t;obtain⟨Y,P,U,H,u,M,O⟩:=v;have h1:=nq (.mk T ts) W;cases Q:bA (.mk T ts)with
 | false =>
  rw[Q]at h1;rw[show pI (.mk T ts) (.mk Y P U H u M O)=false from by unfold pI;rw[Q,Bool.false_and]];refine qn Tryz.func39 Tryz.call39 fun β hf=>?_;exact dq
 | true =>
  have h2:=zQ (.mk Y P U H u M O) (.mk T ts) (mb Q) V W;rw[Q]at h1;rw[show pI (.mk T ts) (.mk Y P U H u M O)=bL (.mk Y P U H u M O) (.mk T ts)from by unfold pI;rw[Q,Bool.true_and]];generalize bL (.mk Y P U H u M O) (.mk T ts)=b at h2;refine qn Tryz.func39 Tryz.call39 fun β hf=>?_;exact dq
end Go.Proofs
namespace Go.Proofs
open Go.cu
theorem ij:∀(a:List Vl) (b:List Vl),aa (a++b)=aa a++aa b
 | [],b=>rfl
 | x::a,b=>by simp only[List.cons_append,aa,ij a b]
theorem QJ (x:Nd) (l:List Nd) (t:Ty) (r:List Ty):eE (x::l) (t::r)=if(dI x t).2=true then glue [(dI x t).1] (eE l r)else([],false):=by simp only[eE]
theorem TX:eE [] []=([],true):=by simp only[eE]
theorem QK (acc:List Vl) (x:Vl) (z:List Vl×Bool):glue acc (glue [x] z)=glue (acc++[x]) z:=Pf acc [x] z
theorem VN (acc:List Vl):glue acc ([],false)=([],false):=rfl
theorem TY (acc:List Vl):glue acc ([],true)=(acc,true):=by simp[glue]
theorem Iw (x:Nd) (l:List Nd) (t:Ty):eS (x::l) t=((dI x t).1::(eS l t).1,(dI x t).2&&(eS l t).2):=by simp only[eS]
theorem Lg (t:Ty):eS [] t=([],true):=by simp only[eS]
theorem Ix (kind N P:Int) (S:List UInt8) (xs:List Nd) (l:List Nd) (ts:List Ty):eu (.mk kind N P S xs::l) ts=(.mk 11 0 0 [] (eE xs ts).1 [] []::(eu l ts).1,((eE xs ts).2&&decide (kind=2/\P=28))&&(eu l ts).2):=by simp only[eu]
theorem Lh (ts:List Ty):eu [] ts=([],true):=by simp only[eu]
theorem aar (kind N P:Int) (S:List UInt8) (args:List Nd) (ts:List Ty):dI (.mk kind N P S args) (.mk 1 ts)=(pH 1,decide (kind=2/\P=20/\args.length=0)):=by simp[dI,bS]
theorem aas (kind N P:Int) (S:List UInt8) (args:List Nd) (ts:List Ty):dI (.mk kind N P S args) (.mk 2 ts)=(.mk 2 (IntKind.i64.wrap (22-P)) 0 [] [] [] [],decide (kind=2/\(P=21\/P=22)/\args.length=0)):=by simp[dI,bS]
theorem Pc (T kind N P:Int) (K:T=3\/T=4\/T=5\/T=7) (S:List UInt8) (args:List Nd) (ts:List Ty):dI (.mk kind N P S args) (.mk T ts)=(.mk T N 0 [] [] [] [],decide (kind=0)):=by
 rcases K with rfl|rfl|rfl|rfl<;>simp[dI,bS]
theorem aat (kind N P:Int) (S:List UInt8) (args:List Nd) (ts:List Ty):dI (.mk kind N P S args) (.mk 6 ts)=(.mk 6 0 0 S [] [] [],decide (kind=1)):=by simp[dI,bS]
theorem X5 (N:Int) (S:List UInt8) (args:List Nd) (ts:List Ty):dI (.mk 2 N 27 S args) (.mk 9 ts)=(pH 9,decide (args.length=0)):=by simp[dI,bS]
theorem X6 (N:Int) (S:List UInt8) (args:List Nd) (ts:List Ty):dI (.mk 2 N 26 S args) (.mk 9 ts)=(.mk 9 0 0 [] (eE args ts).1 [] [],(eE args ts).2):=by simp[dI,bS,au]
theorem X7 (kind N P:Int) (S:List UInt8) (args:List Nd) (ts:List Ty) (h1:¬(kind=2/\P=27)) (h2:¬(kind=2/\P=26)):dI (.mk kind N P S args) (.mk 9 ts)=(pH 9,false):=by simp[dI,bS,h1,h2]
theorem VO (N:Int) (S:List UInt8) (args:List Nd) (ts:List Ty):dI (.mk 2 N 23 S args) (.mk 11 ts)=(.mk 11 0 0 [] (eE args ts).1 [] [],(eE args ts).2):=by simp[dI,bS,au]
theorem VP (kind N P:Int) (S:List UInt8) (args:List Nd) (ts:List Ty) (h1:¬(kind=2/\P=23)):dI (.mk kind N P S args) (.mk 11 ts)=(pH 11,false):=by simp[dI,bS,h1]
theorem VQ (N:Int) (S:List UInt8) (args:List Nd) (u M:Ty):dI (.mk 2 N 24 S args) (.mk 12 [u,M])=(.mk 12 0 0 [] (eE args [u]).1 [] [],(eE args [u]).2):=by simp[dI,bS,aD,au]
theorem VR (N:Int) (S:List UInt8) (args:List Nd) (u M:Ty):dI (.mk 2 N 25 S args) (.mk 12 [u,M])=(.mk 12 1 0 [] (eE args [M]).1 [] [],(eE args [M]).2):=by simp[dI,bS,aD,au]
theorem VS (kind N P:Int) (S:List UInt8) (args:List Nd) (ts:List Ty) (h1:¬(kind=2/\P=24)) (h2:¬(kind=2/\P=25)):dI (.mk kind N P S args) (.mk 12 ts)=(pH 12,false):=by simp[dI,bS,h1,h2]
theorem X8 (kind N P:Int) (S:List UInt8) (args:List Nd) (u:Ty):dI (.mk kind N P S args) (.mk 10 [u])=(.mk 10 0 0 [] (eS args u).1 [] [],decide (kind=3)&&(eS args u).2):=by simp[dI,bS,aD,au]
theorem X9 (kind N P:Int) (S:List UInt8) (args:List Nd) (ts:List Ty):dI (.mk kind N P S args) (.mk 13 ts)=(.mk 13 0 0 [] (eu args ts).1 [] [],decide (kind=3)&&(eu args ts).2):=by simp[dI,bS,au]
theorem aau (T kind N P:Int) (K:T=8\/T=14\/T=15) (S:List UInt8) (args:List Nd) (ts:List Ty):dI (.mk kind N P S args) (.mk T ts)=(pH T,false):=by
 rcases K with rfl|rfl|rfl<;>simp[dI,bS]
attribute [local irreducible] AK ai bw bz dI eE eS eu
theorem bw.weaken {P:Program} {X:Ctx} {f:FuncId} {args:List CV} {r O:CV} (h:∀G v,Rel G r v->Rel G O v) (q:bw P X f args r):bw P X f args O:=by
 unfold bw at q ⊢;refine⟨q.1,fun G w vs h1 h2 V=>?_⟩;exact Calls.mono (q.2 G w vs h1 h2 V) fun e w' ⟨u,p,A,E,B⟩=>⟨u,p,A,h p u E,B⟩
theorem NR {G:jm} {s t:Nat} {v:Value} (h:Rel G (.sl s []) v):Rel G (.sl t []) v:=by
 rw[Rel]at h ⊢;obtain⟨base,V,E,A,U,B,_⟩:=h;exact⟨base,V,E,A,U,B,.inl rfl⟩
theorem TZ {G:jm} {s t:Nat} {b:Bool} {v:Value} (h:Rel G (.gB [.sl s [],.bool b]) v):Rel G (.gB [.sl t [],.bool b]) v:=by
 rw[Rel]at h ⊢;obtain⟨vs,A,E,B⟩:=h;refine⟨vs,A,?_,cn⟩;rw[bO]at E ⊢;obtain⟨u,us,Y,P,W⟩:=E;exact⟨u,us,Y,NR P,W⟩
def aav:List Vl×Bool->CV
 | (q,true) => .gB [.sl 7 (aa q),.bool true]
 | (_,false) => .gB [.sl 0 [],.bool false]
theorem fN (kind N P q:Int) (S:List UInt8) (args:List Nd):ah 128 [.int .i64 q,.ip [.int .i64 kind,.int .i64 N,.int .i64 P,.str S,.sl 5 (aH args)]] (.bool (decide (kind=2/\P=q))):=by
 refine qn Tryz.func128 Tryz.call128 fun β hf=>?_
 repeat' (first|refine sz ?_|((first|refine zt ?_|refine zu ?_ ?_)<;>intro h<;>(fail_if_success (cases h;done))<;>rw[h]))
 all_goals
  show(_:CV)=_;clear hf;refine congrArg CV.bool ?_;rw[Bool.eq_iff_iff]
  (try simp_all)<;>(try omega)
theorem NL (ts:List Ty) (l:List Nd) (C:l.length<=1099511627776) (A:∀x∈l,∀t∈ts,ah 96 [eC t,aW x] (.gB [bP (dI x t).1,.bool (dI x t).2])) :
  ah 129 [.sl 2 (aE ts),.sl 5 (aH l)] (aav (eE l ts)):=by
 by_cases Y:l.length=ts.length;rotate_left
 ·have H:((((aE ts).length:Nat):Int) != (((aH l).length:Nat):Int))=true:=by rw[aY,bq];simp;omega
  rw[II l ts Y];refine qn Tryz.func129 Tryz.call129 fun β hf=>?_;exact dq
 have H:((((aE ts).length:Nat):Int) != (((aH l).length:Nat):Int))=false:=by rw[aY,bq];simp;omega
 refine qn Tryz.func129 Tryz.call129 fun β hf=>?_
 repeat' (first|refine sz ?_|(refine zc ?_ ?_<;>intro h<;>first|(cases h;done)|rw[h]|skip)|(refine uA rfl ?_ ?_<;>(try (show(_:Nat)*_<=_;dsimp only))))
 refine AK.fY [] [(6000,(0,none))] (env':=[(17,.c (.int .i64 (0:Nat))),(16,.c (.int .i64 (aH l).length)),(0,.c (.sl 2 (aE ts))),(1,.c (.sl 5 (aH l))),(6,.own (.tok 6000 0) 7 [])])
  (bs':=[]) (ts':=[(6000,0)]) (us':=[6000])
  ⟨⟨_,rfl,.inl rfl⟩,⟨_,rfl,.inl rfl⟩,⟨_,rfl,.inl rfl⟩,⟨_,rfl,.inl rfl⟩,⟨_,rfl,⟨_,rfl,.inl ⟨rfl,_,rfl,.inr rfl⟩⟩⟩,trivial⟩ trivial rfl ?_
 refine AK.eM (α:=Nat×List Vl) (fun z=>z.1<=l.length/\z.1=z.2.length/\eE l ts=glue z.2 (eE (l.drop z.1) (ts.drop z.1))) (fun z=>l.length-z.1)
  (fun z=>[(17,.c (.int .i64 z.1)),(16,.c (.int .i64 (aH l).length)),(0,.c (.sl 2 (aE ts))),(1,.c (.sl 5 (aH l))),(6,.own (.tok 6000 0) 7 (aa z.2))]) (fun _=>[]) (fun _=>[(6000,0)]) [6000] (0,[])
  ⟨bn,rfl,by rw[Q1 _ (Ct _ _)];rfl⟩ ⟨.inl rfl,.inl rfl,.inl rfl,.inl rfl,.inl rfl,trivial⟩ trivial ⟨rfl,trivial⟩ rfl rfl rfl ?_
 rintro⟨i,acc⟩ ⟨I,P,p⟩ ih;simp only at I P p;rcases gf l i I with ⟨x,O,u⟩|N
 ·have G:=lq O;have h2:=bD O;obtain⟨t,M⟩:∃t,ts[i]?=some t:=⟨ts[i]' bn,cn⟩
  have hq:=A x u t (aaz M);rw[dO O,dO M,QJ]at p;rcases D:dI x t with ⟨⟨E,K,W,V,J,T,S⟩,b⟩
  rw[D]at hq p;obtain⟨q,xn,xp,xs,xa⟩:=x;obtain⟨U,us⟩:=t;cases b with
  | false =>
   rw[if_neg cn,VN]at p;rw[p];clear ih p;have tW:=fQ M;have BD:=dX O;exact dq
  | true =>
   rw[if_pos rfl,QK]at p
   repeat' (first|refine sz ?_|(refine zc ?_ ?_<;>intro h<;>first|(cases h;done)|rw[h]|skip)|refine uI rfl (i) rfl (fQ M) rfl ?_|refine uI rfl (i) rfl (dX O) rfl ?_|refine uC rfl hq ?_|(refine uA rfl ?_ ?_<;>(try (show(_:Nat)*_<=_;dsimp only))))
   ·have h1:=az acc;simp only[aaa,aab];omega
   ·have Q:aa acc++[bP (.mk E K W V J T S)]=aa (acc++[Vl.mk E K W V J T S]):=(ij acc [_]).symm;refine AK.fY [] [(6000,(0,some 6000))] (env':=[(17,.c (.int .i64 ((i+1:Nat):Int))),(16,.c (.int .i64 (aH l).length)),(0,.c (.sl 2 (aE ts))),(1,.c (.sl 5 (aH l))),(6,.own (.tok 6000 0) 7 (aa (acc++[Vl.mk E K W V J T S])))])
     (bs':=[]) (ts':=[(6000,0)]) (us':=[6000])
     ⟨⟨_,rfl,.inl (kL (i:=i) bn)⟩,⟨_,rfl,.inl rfl⟩,⟨_,rfl,.inl rfl⟩,⟨_,rfl,.inl rfl⟩,⟨_,rfl,⟨_,rfl,.inr ⟨_,_,rfl,rfl,congrArg (AV.own (.tok 6000 1) 7) Q⟩⟩⟩,trivial⟩ trivial rfl ?_
    exact ih (i+1,acc++[Vl.mk E K W V J T S]) ⟨h2,by simp[P],p⟩ tV
 ·have G:=iX N;have B:eE l ts=(acc,true):=by rw[p,N,Y,List.drop_length,<- Y,List.drop_length,TX,TY]
  rw[B];clear ih p;exact dq
theorem wL (ts:List Ty) (l:List Nd) (C:l.length<=1099511627776) (T:∀x∈l,∀t∈ts,ah 96 [eC t,aW x] (.gB [bP (dI x t).1,.bool (dI x t).2])) :
  ah 129 [.sl 2 (aE ts),.sl 5 (aH l)] (.gB [.sl 7 (aa (eE l ts).1),.bool (eE l ts).2]):=by
 have h:=NL ts l C T;have hf:=Ct l ts;rcases I:eE l ts with ⟨q,b⟩
 rw[I]at h hf;cases b with
 | true=>exact h
 | false =>
  obtain rfl:=hf rfl;exact bw.weaken (fun G v Y=>TZ Y) h
end Go.Proofs
