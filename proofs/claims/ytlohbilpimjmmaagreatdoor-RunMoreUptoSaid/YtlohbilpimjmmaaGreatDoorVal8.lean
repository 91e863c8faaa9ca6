/- What prim, wrong, many and Good of package tree answer. What many and Good of package tree answer. What Has, Compare and worth answer; the laws ValueOneType and ValueOrder. What row and parse of package value answer. -/
import Derived.Test.YtlohbilpimjmmaaGreatDoorBits
import Derived.Test.YtlohbilpimjmmaaGreatDoorTPure
import Derived.Test.YtlohbilpimjmmaaGreatDoorVal3
import Derived.Test.YtlohbilpimjmmaaGreatDoorCPure
set_option maxHeartbeats 0
set_option linter.unusedVariables false
set_option linter.unusedSimpArgs false
set_option maxRecDepth 100000
namespace Go.Proofs
open Go.cq
attribute [local irreducible] AK ai bh bt
theorem me (p:Int):ag 44 [.int .i64 p] (.bool (qO p)):=by
 refine qn Tryz.func44 Tryz.call44 fun β hf=>?_
 repeat' (first|refine sz ?_|((first|refine zt ?_|refine zu ?_ ?_)<;>intro h<;>(fail_if_success (cases h;done))<;>rw[h]))
 all_goals
  show(_:CV)=_;clear hf;simp only[cond_true,cond_false,decide_eq_true_eq,decide_eq_false_iff_not]at *;congr 1;unfold qO
  first
  | (symm;apply aam;omega)
  | (symm;apply aan;omega)
  | (apply decide_eq_decide.2;omega)
theorem mg {kind n p:Int} {s:List UInt8} {args:List Nd} {d e:Int} (h:gk kind n p s args.length d=e) (P:e≠0):ep (.mk kind n p s args) d=e:=by
 simp only[ep,h,if_neg P]
theorem tO {kind n p:Int} {s:List UInt8} {args:List Nd} {d:Int} (h:gk kind n p s args.length d=0):ep (.mk kind n p s args) d=dg args (d+1):=by
 simp only[ep,h,if_true]
theorem tP (d:Int):dg [] d=0:=rfl
theorem qV (x:Nd) (l:List Nd) (d:Int):dg (x::l) d=if ep x d=0 then dg l d else ep x d:=rfl
attribute [local irreducible] ep dg
theorem BH:∀(t:Nd) (d:Int),b8 t<=8589934593->0<=d->d<=1099511627776-b8 t->ag 33 [aX t,.int .i64 d] (.int .i64 (ep t d))
 | .mk kind n p s args=>by
  intro d ht LF hd
  simp only[b8]at ht hd
  have IQ:=fP args
  have hin:∀x∈args,ag 33 [aX x,.int .i64 (IntKind.i64.wrap (d+1))] (.int .i64 (ep x (d+1))):=by
   intro x hx
   have:=er hx
   rw[gW bn bn]
   exact BH x (d+1) bn bn bn
  by_cases c1:d>24
  ·have e1:decide (d>24)=true:=aam c1
   rw[mg (e:=4) (by simp only[gk,if_pos c1]) bn]
   refine qn Tryz.func33 Tryz.call33 fun β hf=>?_
   repeat' (first|refine sz ?_|(refine zc ?_ ?_<;>intro h<;>first|(cases h;done)|rw[h]|skip)|((first|refine zt ?_|refine zu ?_ ?_)<;>intro h<;>(fail_if_success (cases h;done))<;>rw[h]))
   all_goals rfl
  have e1:decide (d>24)=false:=aan c1
  by_cases c2:kind<0
  ·have e2:decide (kind<0)=true:=aam c2
   rw[mg (e:=3) (by simp only[gk,if_neg c1,c2,true_or,if_true]) bn]
   refine qn Tryz.func33 Tryz.call33 fun β hf=>?_
   exact dq
  have e2:decide (kind<0)=false:=aan c2
  by_cases c3:kind>3
  ·have e3:decide (kind>3)=true:=aam c3
   rw[mg (e:=3) (by simp only[gk,if_neg c1,c3,true_or,or_true,if_true]) bn]
   refine qn Tryz.func33 Tryz.call33 fun β hf=>?_
   exact dq
  have e3:decide (kind>3)=false:=aan c3
  have h4:kind=0\/kind=1\/kind=2\/kind=3:=by omega
  rcases h4 with rfl|rfl|rfl|rfl
  ·skip
   refine qn Tryz.func33 Tryz.call33 fun β hf=>?_
   repeat' (first|refine sz ?_|(refine zc ?_ ?_<;>intro h<;>first|(cases h;done)|rw[h]|skip)|refine uC rfl (me p) ?_|((first|refine zt ?_|refine zu ?_ ?_)<;>intro h<;>(fail_if_success (cases h;done))<;>rw[h]))
   all_goals first
     | ((show(_:CV)=_);clear hf hin;(try simp only[br]at *);congr 1;symm;refine mg ?_ bn;unfold gk bP;simp_all<;>(repeat' split)<;>omega)
     | skip
   all_goals
    have hw:gk (0) n p s args.length d=0:=by
     clear hf hin
     try simp only[br]at *
     unfold gk bP
     simp_all<;>(repeat' split)<;>omega
    have hT:=tO hw
    clear hw
    refine AK.eK (α:=Nat) (fun i=>i<=args.length/\dg args (d+1)=dg (args.drop i) (d+1)) (fun i=>args.length-i)
     (fun i=>[(88,.c (.int .i64 i)),(87,.c (.int .i64 (aI args).length)),(86,.c (.sl 5 (aI args))),(1,.c (.int .i64 d))]) (fun _=>[]) (fun _=>[]) [] 0
     ⟨bn,rfl⟩ ⟨.inl rfl,.inl rfl,.inl rfl,.inl rfl,trivial⟩ trivial trivial rfl rfl rfl ?_
    rintro i ⟨hi,hinv⟩ ih
    rcases fT args i hi with ⟨x,hx,hm⟩|he
    ·have hc:=lW hx
     have hq:=hin x hm
     rw[dV hx,qV]at hinv
     obtain⟨x1,x2,x3,x4,x5⟩:=x
     by_cases h0:ep (.mk x1 x2 x3 x4 x5) (d+1)=0
     ·rw[if_pos h0]at hinv
      rw[h0]at hq
      repeat' (first|refine sz ?_|(refine zc ?_ ?_<;>intro h<;>first|(cases h;done)|rw[h]|skip)|refine uI rfl (i) rfl (ef hx) rfl ?_|refine uC rfl hq ?_|((first|refine zt ?_|refine zu ?_ ?_)<;>intro h<;>(fail_if_success (cases h;done))<;>rw[h]))
      exact Xu
     ·rw[if_neg h0]at hinv
      have hne:(ep (.mk x1 x2 x3 x4 x5) (d+1) != 0)=true:=by simpa using h0
      repeat' (first|refine sz ?_|(refine zc ?_ ?_<;>intro h<;>first|(cases h;done)|rw[h]|skip)|refine uI rfl (i) rfl (ef hx) rfl ?_|refine uC rfl hq ?_|((first|refine zt ?_|refine zu ?_ ?_)<;>intro h<;>(fail_if_success (cases h;done))<;>rw[h]))
      show(_:CV)=_
      rw[hT,hinv]
    ·have hc:=js he
     have h0:dg args (d+1)=0:=by rw[hinv,he,List.drop_length,tP]
     clear ih
     repeat' (first|refine sz ?_|(refine zc ?_ ?_<;>intro h<;>first|(cases h;done)|rw[h]|skip)|((first|refine zt ?_|refine zu ?_ ?_)<;>intro h<;>(fail_if_success (cases h;done))<;>rw[h]))
     show(_:CV)=_
     rw[hT,h0]
  ·skip
   refine qn Tryz.func33 Tryz.call33 fun β hf=>?_
   repeat' (first|refine sz ?_|(refine zc ?_ ?_<;>intro h<;>first|(cases h;done)|rw[h]|skip)|refine uC rfl (me p) ?_|((first|refine zt ?_|refine zu ?_ ?_)<;>intro h<;>(fail_if_success (cases h;done))<;>rw[h]))
   all_goals first
     | ((show(_:CV)=_);clear hf hin;(try simp only[br]at *);congr 1;symm;refine mg ?_ bn;unfold gk bP;simp_all<;>(repeat' split)<;>omega)
     | skip
   all_goals
    have hw:gk (1) n p s args.length d=0:=by
     clear hf hin
     try simp only[br]at *
     unfold gk bP
     simp_all<;>(repeat' split)<;>omega
    have hT:=tO hw
    clear hw
    refine AK.eK (α:=Nat) (fun i=>i<=args.length/\dg args (d+1)=dg (args.drop i) (d+1)) (fun i=>args.length-i)
     (fun i=>[(88,.c (.int .i64 i)),(87,.c (.int .i64 (aI args).length)),(86,.c (.sl 5 (aI args))),(1,.c (.int .i64 d))]) (fun _=>[]) (fun _=>[]) [] 0
     ⟨bn,rfl⟩ ⟨.inl rfl,.inl rfl,.inl rfl,.inl rfl,trivial⟩ trivial trivial rfl rfl rfl ?_
    rintro i ⟨hi,hinv⟩ ih
    rcases fT args i hi with ⟨x,hx,hm⟩|he
    ·have hc:=lW hx
     have hq:=hin x hm
     rw[dV hx,qV]at hinv
     obtain⟨x1,x2,x3,x4,x5⟩:=x
     by_cases h0:ep (.mk x1 x2 x3 x4 x5) (d+1)=0
     ·rw[if_pos h0]at hinv
      rw[h0]at hq
      repeat' (first|refine sz ?_|(refine zc ?_ ?_<;>intro h<;>first|(cases h;done)|rw[h]|skip)|refine uI rfl (i) rfl (ef hx) rfl ?_|refine uC rfl hq ?_|((first|refine zt ?_|refine zu ?_ ?_)<;>intro h<;>(fail_if_success (cases h;done))<;>rw[h]))
      exact Xu
     ·rw[if_neg h0]at hinv
      have hne:(ep (.mk x1 x2 x3 x4 x5) (d+1) != 0)=true:=by simpa using h0
      repeat' (first|refine sz ?_|(refine zc ?_ ?_<;>intro h<;>first|(cases h;done)|rw[h]|skip)|refine uI rfl (i) rfl (ef hx) rfl ?_|refine uC rfl hq ?_|((first|refine zt ?_|refine zu ?_ ?_)<;>intro h<;>(fail_if_success (cases h;done))<;>rw[h]))
      show(_:CV)=_
      rw[hT,hinv]
    ·have hc:=js he
     have h0:dg args (d+1)=0:=by rw[hinv,he,List.drop_length,tP]
     clear ih
     repeat' (first|refine sz ?_|(refine zc ?_ ?_<;>intro h<;>first|(cases h;done)|rw[h]|skip)|((first|refine zt ?_|refine zu ?_ ?_)<;>intro h<;>(fail_if_success (cases h;done))<;>rw[h]))
     show(_:CV)=_
     rw[hT,h0]
  ·skip
   refine qn Tryz.func33 Tryz.call33 fun β hf=>?_
   repeat' (first|refine sz ?_|(refine zc ?_ ?_<;>intro h<;>first|(cases h;done)|rw[h]|skip)|refine uC rfl (me p) ?_|((first|refine zt ?_|refine zu ?_ ?_)<;>intro h<;>(fail_if_success (cases h;done))<;>rw[h]))
   all_goals first
     | ((show(_:CV)=_);clear hf hin;(try simp only[br]at *);congr 1;symm;refine mg ?_ bn;unfold gk bP;simp_all<;>(repeat' split)<;>omega)
     | skip
   all_goals
    have hw:gk (2) n p s args.length d=0:=by
     clear hf hin
     try simp only[br]at *
     unfold gk bP
     simp_all<;>(repeat' split)<;>omega
    have hT:=tO hw
    clear hw
    refine AK.eK (α:=Nat) (fun i=>i<=args.length/\dg args (d+1)=dg (args.drop i) (d+1)) (fun i=>args.length-i)
     (fun i=>[(88,.c (.int .i64 i)),(87,.c (.int .i64 (aI args).length)),(86,.c (.sl 5 (aI args))),(1,.c (.int .i64 d))]) (fun _=>[]) (fun _=>[]) [] 0
     ⟨bn,rfl⟩ ⟨.inl rfl,.inl rfl,.inl rfl,.inl rfl,trivial⟩ trivial trivial rfl rfl rfl ?_
    rintro i ⟨hi,hinv⟩ ih
    rcases fT args i hi with ⟨x,hx,hm⟩|he
    ·have hc:=lW hx
     have hq:=hin x hm
     rw[dV hx,qV]at hinv
     obtain⟨x1,x2,x3,x4,x5⟩:=x
     by_cases h0:ep (.mk x1 x2 x3 x4 x5) (d+1)=0
     ·rw[if_pos h0]at hinv
      rw[h0]at hq
      repeat' (first|refine sz ?_|(refine zc ?_ ?_<;>intro h<;>first|(cases h;done)|rw[h]|skip)|refine uI rfl (i) rfl (ef hx) rfl ?_|refine uC rfl hq ?_|((first|refine zt ?_|refine zu ?_ ?_)<;>intro h<;>(fail_if_success (cases h;done))<;>rw[h]))
      exact Xu
     ·rw[if_neg h0]at hinv
      have hne:(ep (.mk x1 x2 x3 x4 x5) (d+1) != 0)=true:=by simpa using h0
      repeat' (first|refine sz ?_|(refine zc ?_ ?_<;>intro h<;>first|(cases h;done)|rw[h]|skip)|refine uI rfl (i) rfl (ef hx) rfl ?_|refine uC rfl hq ?_|((first|refine zt ?_|refine zu ?_ ?_)<;>intro h<;>(fail_if_success (cases h;done))<;>rw[h]))
      show(_:CV)=_
      rw[hT,hinv]
    ·have hc:=js he
     have h0:dg args (d+1)=0:=by rw[hinv,he,List.drop_length,tP]
     clear ih
     repeat' (first|refine sz ?_|(refine zc ?_ ?_<;>intro h<;>first|(cases h;done)|rw[h]|skip)|((first|refine zt ?_|refine zu ?_ ?_)<;>intro h<;>(fail_if_success (cases h;done))<;>rw[h]))
     show(_:CV)=_
     rw[hT,h0]
  ·skip
   refine qn Tryz.func33 Tryz.call33 fun β hf=>?_
   repeat' (first|refine sz ?_|(refine zc ?_ ?_<;>intro h<;>first|(cases h;done)|rw[h]|skip)|refine uC rfl (me p) ?_|((first|refine zt ?_|refine zu ?_ ?_)<;>intro h<;>(fail_if_success (cases h;done))<;>rw[h]))
   all_goals first
     | ((show(_:CV)=_);clear hf hin;(try simp only[br]at *);congr 1;symm;refine mg ?_ bn;unfold gk bP;simp_all<;>(repeat' split)<;>omega)
     | skip
   all_goals
    have hw:gk (3) n p s args.length d=0:=by
     clear hf hin
     try simp only[br]at *
     unfold gk bP
     simp_all<;>(repeat' split)<;>omega
    have hT:=tO hw
    clear hw
    refine AK.eK (α:=Nat) (fun i=>i<=args.length/\dg args (d+1)=dg (args.drop i) (d+1)) (fun i=>args.length-i)
     (fun i=>[(88,.c (.int .i64 i)),(87,.c (.int .i64 (aI args).length)),(86,.c (.sl 5 (aI args))),(1,.c (.int .i64 d))]) (fun _=>[]) (fun _=>[]) [] 0
     ⟨bn,rfl⟩ ⟨.inl rfl,.inl rfl,.inl rfl,.inl rfl,trivial⟩ trivial trivial rfl rfl rfl ?_
    rintro i ⟨hi,hinv⟩ ih
    rcases fT args i hi with ⟨x,hx,hm⟩|he
    ·have hc:=lW hx
     have hq:=hin x hm
     rw[dV hx,qV]at hinv
     obtain⟨x1,x2,x3,x4,x5⟩:=x
     by_cases h0:ep (.mk x1 x2 x3 x4 x5) (d+1)=0
     ·rw[if_pos h0]at hinv
      rw[h0]at hq
      repeat' (first|refine sz ?_|(refine zc ?_ ?_<;>intro h<;>first|(cases h;done)|rw[h]|skip)|refine uI rfl (i) rfl (ef hx) rfl ?_|refine uC rfl hq ?_|((first|refine zt ?_|refine zu ?_ ?_)<;>intro h<;>(fail_if_success (cases h;done))<;>rw[h]))
      exact Xu
     ·rw[if_neg h0]at hinv
      have hne:(ep (.mk x1 x2 x3 x4 x5) (d+1) != 0)=true:=by simpa using h0
      repeat' (first|refine sz ?_|(refine zc ?_ ?_<;>intro h<;>first|(cases h;done)|rw[h]|skip)|refine uI rfl (i) rfl (ef hx) rfl ?_|refine uC rfl hq ?_|((first|refine zt ?_|refine zu ?_ ?_)<;>intro h<;>(fail_if_success (cases h;done))<;>rw[h]))
      show(_:CV)=_
      rw[hT,hinv]
    ·have hc:=js he
     have h0:dg args (d+1)=0:=by rw[hinv,he,List.drop_length,tP]
     clear ih
     repeat' (first|refine sz ?_|(refine zc ?_ ?_<;>intro h<;>first|(cases h;done)|rw[h]|skip)|((first|refine zt ?_|refine zu ?_ ?_)<;>intro h<;>(fail_if_success (cases h;done))<;>rw[h]))
     show(_:CV)=_
     rw[hT,h0]
termination_by t=>SizeOf.sizeOf t
decreasing_by
 have:=List.sizeOf_lt_of_mem hx
 simp at this ⊢;omega
end Go.Proofs
namespace Go.Proofs
open Go.cq
theorem V7 (kind n p:Int) (s:List UInt8) (args:List Nd):many (.mk kind n p s args)=cI args+1:=rfl
theorem QT:cI []=0:=rfl
theorem NZ (x:Nd) (l:List Nd):cI (x::l)=many x+cI l:=rfl
mutual
theorem QU:∀t:Nd,many t<=b8 t
 | .mk kind n p s args=>by have:=ym args;simp only[many,b8];omega
theorem ym:∀l:List Nd,cI l<=aU l
 | []=>aak _
 | t::l=>by have:=QU t;have:=ym l;simp only[cI,aU];omega
end
theorem aaB {a b:Nat} (h:a+b<1099511627776):some (AV.c (CV.int .i64 (IntKind.i64.wrap ((a:Int)+(b:Int)))))=some (AV.c (CV.int .i64 ((a+b:Nat):Int))):=by
 rw[gW bn bn];rfl
attribute [local irreducible] AK ai bh bt many cI ep dg
theorem EC:∀(t:Nd),b8 t<=8589934593->ag 34 [aX t] (.int .i64 (many t))
 | .mk kind n p s args,M=>by
  have Y:=ym args;simp only[b8]at M;have S:=fP args;have N:∀x∈args,ag 34 [aX x] (.int .i64 (many x)):=fun x O=>EC x SB;rw[V7];refine qn Tryz.func34 Tryz.call34 fun β hf=>?_;refine dn ?_;refine AK.eK (α:=Nat×Nat) (fun z=>z.1<=args.length/\cI args+1=z.2+cI (args.drop z.1)) (fun z=>args.length-z.1)
   (fun z=>[(9,.c (.int .i64 z.1)),(8,.c (.int .i64 (aI args).length)),(7,.c (.sl 5 (aI args))),(3,.c (.int .i64 z.2))]) (fun _=>[]) (fun _=>[]) [] (0,1)
   ⟨bn,by rw[List.drop_zero];omega⟩ ⟨.inl rfl,.inl rfl,.inl rfl,.inl rfl,trivial⟩ trivial trivial rfl rfl rfl ?_
  rintro⟨i,m⟩ ⟨W,T⟩ ih;simp only at W T;rcases fT args i W with ⟨x,O,V⟩|P
  ·have E:=lW O;have hq:=N x V;rw[dV O,NZ]at T;have h2:=bB O;generalize many x=q at hq T;obtain⟨Q,u,J,C,K⟩:=x
   repeat' (first|refine nP ?_|(refine zc ?_ ?_<;>intro h<;>first|(cases h;done)|rw[h]|skip)|refine uI rfl (i) rfl (ef O) rfl ?_|refine uC rfl hq ?_)
   refine AK.again (ih (i+1,m+q) ⟨h2,by show cI args+1=m+q+cI (args.drop (i+1));omega⟩ fc) ⟨.inl (iE bn),.inl rfl,.inl rfl,.inl (aaB (a:=m) (b:=q) bn),trivial⟩ trivial trivial rfl rfl rfl
  ·have E:=js P;have U:cI args+1=m:=by rw[T,P,List.drop_length,QT,Nat.add_zero]
   clear ih
   repeat' (first|refine nP ?_|(refine zc ?_ ?_<;>intro h<;>first|(cases h;done)|rw[h]|skip))
   show(_:CV)=_;rw[U]
termination_by t=>SizeOf.sizeOf t
decreasing_by
 have:=List.sizeOf_lt_of_mem O;simp at this ⊢;omega
theorem pM (n:Nd) (Y:b8 n<=8589934593):ag 18 [aX n] (.int .i64 (dG n)):=by
 have h1:=BH n 1 Y bn bn;have h2:=EC n Y;unfold dG;generalize ep n 1=e at h1;generalize many n=m at h2;obtain⟨u,H,p,G,D⟩:=n;by_cases q:e=0
 ·subst q;by_cases J:300<m
  ·have U:decide ((m:Int)>300)=true:=aam bn;simp only[J,if_true];refine qn Tryz.func18 Tryz.call18 fun β hf=>?_;exact dq
  ·have U:decide ((m:Int)>300)=false:=aan bn;simp only[J,if_false,if_true];refine qn Tryz.func18 Tryz.call18 fun β hf=>?_;exact dq
 ·have C:(e != 0)=true:=by simpa using q
  simp only[q,if_false];refine qn Tryz.func18 Tryz.call18 fun β hf=>?_;exact dq
end Go.Proofs
namespace Go.Proofs
open Go.cq
attribute [local irreducible] AK ai bh bt dx bK oO bw fC dG lB cP pL
theorem QD (t:Ty) (v:Vl) (M:bA t<=8589934593) (Y:aM v<=8589934593):ag 39 [eB t,bM v] (.bool (pL t v)):=by
 obtain⟨T,ts⟩:=t;obtain⟨O,u,J,C,S,I,E⟩:=v;have h1:=nA (.mk T ts) M;cases U:bw (.mk T ts)with
 | false =>
  rw[U]at h1;rw[show pL (.mk T ts) (.mk O u J C S I E)=false from by unfold pL;rw[U,Bool.false_and]];refine qn Tryz.func39 Tryz.call39 fun β hf=>?_;exact dq
 | true =>
  have h2:=zY (.mk O u J C S I E) (.mk T ts) (mo U) Y M;rw[U]at h1;rw[show pL (.mk T ts) (.mk O u J C S I E)=bK (.mk O u J C S I E) (.mk T ts)from by unfold pL;rw[U,Bool.true_and]];generalize bK (.mk O u J C S I E) (.mk T ts)=b at h2;refine qn Tryz.func39 Tryz.call39 fun β hf=>?_;exact dq
end Go.Proofs
namespace Go.Proofs
open Go.cq
theorem ie:∀(a:List Vl) (b:List Vl),aa (a++b)=aa a++aa b
 | [],b=>rfl
 | x::a,b=>by simp only[List.cons_append,aa,ie a b]
theorem QV (x:Nd) (l:List Nd) (t:Ty) (r:List Ty):eE (x::l) (t::r)=if(dF x t).2=true then glue [(dF x t).1] (eE l r)else([],false):=by simp only[eE]
theorem Uj:eE [] []=([],true):=by simp only[eE]
theorem QW (acc:List Vl) (x:Vl) (z:List Vl×Bool):glue acc (glue [x] z)=glue (acc++[x]) z:=Py acc [x] z
theorem V8 (acc:List Vl):glue acc ([],false)=([],false):=rfl
theorem Uk (acc:List Vl):glue acc ([],true)=(acc,true):=by simp[glue]
theorem IM (x:Nd) (l:List Nd) (t:Ty):eP (x::l) t=((dF x t).1::(eP l t).1,(dF x t).2&&(eP l t).2):=by simp only[eP]
theorem Lx (t:Ty):eP [] t=([],true):=by simp only[eP]
theorem IN (kind N P:Int) (S:List UInt8) (xs:List Nd) (l:List Nd) (ts:List Ty):eo (.mk kind N P S xs::l) ts=(.mk 11 0 0 [] (eE xs ts).1 [] []::(eo l ts).1,((eE xs ts).2&&decide (kind=2/\P=28))&&(eo l ts).2):=by simp only[eo]
theorem Ly (ts:List Ty):eo [] ts=([],true):=by simp only[eo]
theorem aaC (kind N P:Int) (S:List UInt8) (args:List Nd) (ts:List Ty):dF (.mk kind N P S args) (.mk 1 ts)=(pK 1,decide (kind=2/\P=20/\args.length=0)):=by simp[dF,bR]
theorem aaD (kind N P:Int) (S:List UInt8) (args:List Nd) (ts:List Ty):dF (.mk kind N P S args) (.mk 2 ts)=(.mk 2 (IntKind.i64.wrap (22-P)) 0 [] [] [] [],decide (kind=2/\(P=21\/P=22)/\args.length=0)):=by simp[dF,bR]
theorem Pv (T kind N P:Int) (E:T=3\/T=4\/T=5\/T=7) (S:List UInt8) (args:List Nd) (ts:List Ty):dF (.mk kind N P S args) (.mk T ts)=(.mk T N 0 [] [] [] [],decide (kind=0)):=by
 rcases E with rfl|rfl|rfl|rfl<;>simp[dF,bR]
theorem aaE (kind N P:Int) (S:List UInt8) (args:List Nd) (ts:List Ty):dF (.mk kind N P S args) (.mk 6 ts)=(.mk 6 0 0 S [] [] [],decide (kind=1)):=by simp[dF,bR]
theorem Yl (N:Int) (S:List UInt8) (args:List Nd) (ts:List Ty):dF (.mk 2 N 27 S args) (.mk 9 ts)=(pK 9,decide (args.length=0)):=by simp[dF,bR]
theorem Ym (N:Int) (S:List UInt8) (args:List Nd) (ts:List Ty):dF (.mk 2 N 26 S args) (.mk 9 ts)=(.mk 9 0 0 [] (eE args ts).1 [] [],(eE args ts).2):=by simp[dF,bR,aA]
theorem Yn (kind N P:Int) (S:List UInt8) (args:List Nd) (ts:List Ty) (h1:¬(kind=2/\P=27)) (h2:¬(kind=2/\P=26)):dF (.mk kind N P S args) (.mk 9 ts)=(pK 9,false):=by simp[dF,bR,h1,h2]
theorem V9 (N:Int) (S:List UInt8) (args:List Nd) (ts:List Ty):dF (.mk 2 N 23 S args) (.mk 11 ts)=(.mk 11 0 0 [] (eE args ts).1 [] [],(eE args ts).2):=by simp[dF,bR,aA]
theorem Wa (kind N P:Int) (S:List UInt8) (args:List Nd) (ts:List Ty) (h1:¬(kind=2/\P=23)):dF (.mk kind N P S args) (.mk 11 ts)=(pK 11,false):=by simp[dF,bR,h1]
theorem Wb (N:Int) (S:List UInt8) (args:List Nd) (u Y:Ty):dF (.mk 2 N 24 S args) (.mk 12 [u,Y])=(.mk 12 0 0 [] (eE args [u]).1 [] [],(eE args [u]).2):=by simp[dF,bR,aE,aA]
theorem Wc (N:Int) (S:List UInt8) (args:List Nd) (u Y:Ty):dF (.mk 2 N 25 S args) (.mk 12 [u,Y])=(.mk 12 1 0 [] (eE args [Y]).1 [] [],(eE args [Y]).2):=by simp[dF,bR,aE,aA]
theorem Wd (kind N P:Int) (S:List UInt8) (args:List Nd) (ts:List Ty) (h1:¬(kind=2/\P=24)) (h2:¬(kind=2/\P=25)):dF (.mk kind N P S args) (.mk 12 ts)=(pK 12,false):=by simp[dF,bR,h1,h2]
theorem Yo (kind N P:Int) (S:List UInt8) (args:List Nd) (u:Ty):dF (.mk kind N P S args) (.mk 10 [u])=(.mk 10 0 0 [] (eP args u).1 [] [],decide (kind=3)&&(eP args u).2):=by simp[dF,bR,aE,aA]
theorem Yp (kind N P:Int) (S:List UInt8) (args:List Nd) (ts:List Ty):dF (.mk kind N P S args) (.mk 13 ts)=(.mk 13 0 0 [] (eo args ts).1 [] [],decide (kind=3)&&(eo args ts).2):=by simp[dF,bR,aA]
theorem aaF (T kind N P:Int) (E:T=8\/T=14\/T=15) (S:List UInt8) (args:List Nd) (ts:List Ty):dF (.mk kind N P S args) (.mk T ts)=(pK T,false):=by
 rcases E with rfl|rfl|rfl<;>simp[dF,bR]
attribute [local irreducible] AK ai bh bt dF eE eP eo
theorem bh.weaken {P:Program} {X:Ctx} {f:FuncId} {args:List CV} {r Q:CV} (h:∀G v,Rel G r v->Rel G Q v) (q:bh P X f args r):bh P X f args Q:=by
 unfold bh at q ⊢;refine⟨q.1,fun G w vs h1 h2 V=>?_⟩;exact Calls.mono (q.2 G w vs h1 h2 V) fun e w' ⟨u,Y,C,U,B⟩=>⟨u,Y,C,h Y u U,B⟩
theorem N7 {G:jk} {s t:Nat} {v:Value} (h:Rel G (.sl s []) v):Rel G (.sl t []) v:=by
 rw[Rel]at h ⊢;obtain⟨base,Y,I,C,U,B,_⟩:=h;exact⟨base,Y,I,C,U,B,.inl rfl⟩
theorem Ul {G:jk} {s t:Nat} {b:Bool} {v:Value} (h:Rel G (.gy [.sl s [],.bool b]) v):Rel G (.gy [.sl t [],.bool b]) v:=by
 rw[Rel]at h ⊢;obtain⟨vs,C,U,B⟩:=h;refine⟨vs,C,?_,c9⟩;rw[bL]at U ⊢;obtain⟨u,us,Y,V,P⟩:=U;exact⟨u,us,Y,N7 V,P⟩
def aaG:List Vl×Bool->CV
 | (q,true) => .gy [.sl 7 (aa q),.bool true]
 | (_,false) => .gy [.sl 0 [],.bool false]
theorem fK (kind N P q:Int) (S:List UInt8) (args:List Nd):ag 128 [.int .i64 q,.ip [.int .i64 kind,.int .i64 N,.int .i64 P,.str S,.sl 5 (aI args)]] (.bool (decide (kind=2/\P=q))):=by
 refine qn Tryz.func128 Tryz.call128 fun β hf=>?_
 repeat' (first|refine sz ?_|((first|refine zt ?_|refine zu ?_ ?_)<;>intro h<;>(fail_if_success (cases h;done))<;>rw[h]))
 all_goals
  show(_:CV)=_;clear hf;refine congrArg CV.bool ?_;rw[Bool.eq_iff_iff]
  (try simp_all)<;>(try omega)
theorem N0 (ts:List Ty) (l:List Nd) (p:l.length<=1099511627776) (J:∀x∈l,∀t∈ts,ag 96 [eB t,aX x] (.gy [bM (dF x t).1,.bool (dF x t).2])) :
  ag 129 [.sl 2 (aq ts),.sl 5 (aI l)] (aaG (eE l ts)):=by
 by_cases Y:l.length=ts.length;rotate_left
 ·have u:((((aq ts).length:Nat):Int) != (((aI l).length:Nat):Int))=true:=by rw[aQ,br];simp;omega
  rw[I3 l ts Y];refine qn Tryz.func129 Tryz.call129 fun β hf=>?_;exact dq
 have u:((((aq ts).length:Nat):Int) != (((aI l).length:Nat):Int))=false:=by rw[aQ,br];simp;omega
 refine qn Tryz.func129 Tryz.call129 fun β hf=>?_
 repeat' (first|refine sz ?_|(refine zc ?_ ?_<;>intro h<;>first|(cases h;done)|rw[h]|skip)|(refine uA rfl ?_ ?_<;>(try (show(_:Nat)*_<=_;dsimp only))))
 refine AK.fW [] [(6000,(0,none))] (env':=[(17,.c (.int .i64 (0:Nat))),(16,.c (.int .i64 (aI l).length)),(0,.c (.sl 2 (aq ts))),(1,.c (.sl 5 (aI l))),(6,.own (.tok 6000 0) 7 [])])
  (bs':=[]) (ts':=[(6000,0)]) (us':=[6000])
  ⟨⟨_,rfl,.inl rfl⟩,⟨_,rfl,.inl rfl⟩,⟨_,rfl,.inl rfl⟩,⟨_,rfl,.inl rfl⟩,⟨_,rfl,⟨_,rfl,.inl ⟨rfl,_,rfl,.inr rfl⟩⟩⟩,trivial⟩ trivial rfl ?_
 refine AK.eK (α:=Nat×List Vl) (fun z=>z.1<=l.length/\z.1=z.2.length/\eE l ts=glue z.2 (eE (l.drop z.1) (ts.drop z.1))) (fun z=>l.length-z.1)
  (fun z=>[(17,.c (.int .i64 z.1)),(16,.c (.int .i64 (aI l).length)),(0,.c (.sl 2 (aq ts))),(1,.c (.sl 5 (aI l))),(6,.own (.tok 6000 0) 7 (aa z.2))]) (fun _=>[]) (fun _=>[(6000,0)]) [6000] (0,[])
  ⟨bn,rfl,by rw[Ra _ (Cz _ _)];rfl⟩ ⟨.inl rfl,.inl rfl,.inl rfl,.inl rfl,.inl rfl,trivial⟩ trivial ⟨rfl,trivial⟩ rfl rfl rfl ?_
 rintro⟨i,acc⟩ ⟨Q,P,T⟩ ih;simp only at Q P T;rcases fT l i Q with ⟨x,O,H⟩|K
 ·have G:=lW O;have h2:=bB O;obtain⟨t,M⟩:∃t,ts[i]?=some t:=⟨ts[i]' bn,c9⟩
  have hq:=J x H t (aaw M);rw[dV O,dV M,QV]at T;rcases D:dF x t with ⟨⟨B,N,I,E,A,W,V⟩,b⟩
  rw[D]at hq T;obtain⟨q,xn,xp,xs,xa⟩:=x;obtain⟨U,us⟩:=t;cases b with
  | false =>
   rw[if_neg c9,V8]at T;rw[T];clear ih T;have ug:=fH M;have BJ:=ef O;exact dq
  | true =>
   rw[if_pos rfl,QW]at T
   repeat' (first|refine sz ?_|(refine zc ?_ ?_<;>intro h<;>first|(cases h;done)|rw[h]|skip)|refine uI rfl (i) rfl (fH M) rfl ?_|refine uI rfl (i) rfl (ef O) rfl ?_|refine uC rfl hq ?_|(refine uA rfl ?_ ?_<;>(try (show(_:Nat)*_<=_;dsimp only))))
   ·have h1:=az acc;simp only[aac,aad];omega
   ·have S:aa acc++[bM (.mk B N I E A W V)]=aa (acc++[Vl.mk B N I E A W V]):=(ie acc [_]).symm;refine AK.fW [] [(6000,(0,some 6000))] (env':=[(17,.c (.int .i64 ((i+1:Nat):Int))),(16,.c (.int .i64 (aI l).length)),(0,.c (.sl 2 (aq ts))),(1,.c (.sl 5 (aI l))),(6,.own (.tok 6000 0) 7 (aa (acc++[Vl.mk B N I E A W V])))])
     (bs':=[]) (ts':=[(6000,0)]) (us':=[6000])
     ⟨⟨_,rfl,.inl (kP (i:=i) bn)⟩,⟨_,rfl,.inl rfl⟩,⟨_,rfl,.inl rfl⟩,⟨_,rfl,.inl rfl⟩,⟨_,rfl,⟨_,rfl,.inr ⟨_,_,rfl,rfl,congrArg (AV.own (.tok 6000 1) 7) S⟩⟩⟩,trivial⟩ trivial rfl ?_
    exact ih (i+1,acc++[Vl.mk B N I E A W V]) ⟨h2,by simp[P],T⟩ u6
 ·have G:=js K;have C:eE l ts=(acc,true):=by rw[T,K,Y,List.drop_length,<- Y,List.drop_length,Uj,Uk]
  rw[C];clear ih T;exact dq
theorem wT (ts:List Ty) (l:List Nd) (A:l.length<=1099511627776) (Y:∀x∈l,∀t∈ts,ag 96 [eB t,aX x] (.gy [bM (dF x t).1,.bool (dF x t).2])) :
  ag 129 [.sl 2 (aq ts),.sl 5 (aI l)] (.gy [.sl 7 (aa (eE l ts).1),.bool (eE l ts).2]):=by
 have h:=N0 ts l A Y;have hf:=Cz l ts;rcases I:eE l ts with ⟨q,b⟩
 rw[I]at h hf;cases b with
 | true=>exact h
 | false =>
  obtain rfl:=hf rfl;exact bh.weaken (fun G v W=>Ul W) h
end Go.Proofs
