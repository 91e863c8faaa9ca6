/- What control of package check answers. Texts compared, and what sign, plain, address, Size, Same and the library's searches over values answer. -/
import Derived.Test.YtlohbilpimjmmaaGreatDoorChk3
import Derived.Test.YtlohbilpimjmmaaGreatDoorBits
import Derived.Test.YtlohbilpimjmmaaGreatDoorVRef
import Derived.Laws.Externs
import Derived.Lib.Bytealg
set_option maxHeartbeats 0
set_option linter.unusedVariables false
set_option linter.unusedSimpArgs false
set_option maxRecDepth 100000
namespace Go.Proofs
open Go.cq
attribute [local irreducible] AK ai bh bt aZ fC lz ga ju bw cA fq bf jt iC
theorem CM (P nN:Int) (nS:List UInt8) (args:List Nd) (B s:List Ty) (hP:64<=P/\P<=68) (hf:bN P args=some B) (hs:qx s) (hl:s.length<=9999999990) (hsz:aU args<=8589934593)
  (W:∀a∈args,∀s':List Ty,qx s'->s'.length<=s.length+1->ag 20 [.sl 5 (aI (cF a)),.sl 2 (aq s')] (tT (cA (cF a) (s',false)))) :
  ag 68 [aX (.mk 2 nN P nS args),.sl 2 (aq B),.sl 2 (aq s)] (iW (cG P args (bf args) B s)):=by
 have PC:P=64\/P=65\/P=66\/P=67\/P=68:=by omega
 clear hP;rcases PC with rfl|rfl|rfl|rfl|rfl
 ·obtain⟨K,S,Q,xs,p,p2,S2,O,rfl,rfl⟩:=yF hf rfl;clear hf;rcases s with _|⟨⟨T,us⟩,r⟩
  ·have D:=aj ([]) [2];rw[show fY ([]) [2]=false from by(simp[bV,bW,aV])<;>assumption]at D;rw[show cG 64 ([.mk 3 K S Q xs,.mk 3 p p2 S2 O]) (bf ([.mk 3 K S Q xs,.mk 3 p p2 S2 O])) ([]) ([])=aP 5 from by simp[cG,bR,aE,aA,aag,aah,aS]];rw[aD cc];refine qn Tryz.func68 Tryz.call68 fun β hf=>?_;exact dw
  by_cases hT:T=2
  ·subst hT;simp only[aac]at hl;have zr:=aQ r;have A:=(od hs).2;have D:=aj (.mk 2 us::r) [2];rw[show fY (.mk 2 us::r) [2]=true from by(simp[bV,bW,aV])<;>assumption]at D;have H:=W (.mk 3 K S Q xs) c9 (r) A dZ;have N:=jU xs (r,false) A;have w2:=W (.mk 3 p p2 S2 O) c9 (r) A dZ;have o2:=jU O (r,false) A;rw[show cG 64 ([.mk 3 K S Q xs,.mk 3 p p2 S2 O]) (bf ([.mk 3 K S Q xs,.mk 3 p p2 S2 O])) ([]) (.mk 2 us::r)=cT (cA xs (r,false)) (cA O (r,false))from by simp[cG,bR,aE,aA,aag,aah,aS,bf]];simp only[cF]at H;generalize cA xs (r,false)=r1 at H N ⊢;obtain⟨⟨M,J⟩,e1⟩:=r1;simp only[aac]at N;simp only[cF]at w2;generalize cA O (r,false)=r2 at w2 o2 ⊢;obtain⟨⟨t2,b2⟩,e2⟩:=r2;simp only[aac]at o2;have hm:=iI ((M,J),e1) ((t2,b2),e2) N.1 oy;generalize cT ((M,J),e1) ((t2,b2),e2)=rm at hm ⊢;obtain⟨⟨tm,bm⟩,em⟩:=rm;refine qn Tryz.func68 Tryz.call68 fun β hf=>?_;have ug:=eI r bn;exact dw
  ·have D:=aj (.mk T us::r) [2];rw[show fY (.mk T us::r) [2]=false from by(simp[bV,bW,aV,hT])<;>assumption]at D;rw[show cG 64 ([.mk 3 K S Q xs,.mk 3 p p2 S2 O]) (bf ([.mk 3 K S Q xs,.mk 3 p p2 S2 O])) ([]) (.mk T us::r)=aP 5 from by simp[cG,bR,aE,aA,aag,aah,aS,hT]];rw[aD cc];refine qn Tryz.func68 Tryz.call68 fun β hf=>?_;exact dw
 ·obtain⟨K,S,Q,xs,rfl,rfl⟩:=GX hf rfl;clear hf;rcases s with _|⟨⟨T,us⟩,r⟩
  ·have D:=aj ([]) [2];rw[show fY ([]) [2]=false from by(simp[bV,bW,aV])<;>assumption]at D;rw[show cG 65 ([.mk 3 K S Q xs]) (bf ([.mk 3 K S Q xs])) ([]) ([])=aP 5 from by simp[cG,bR,aE,aA,aag,aah,aS]];rw[aD cc];refine qn Tryz.func68 Tryz.call68 fun β hf=>?_;exact dw
  by_cases hT:T=2
  ·subst hT;simp only[aac]at hl;have zr:=aQ r;have A:=(od hs).2;have D:=aj (.mk 2 us::r) [2];rw[show fY (.mk 2 us::r) [2]=true from by(simp[bV,bW,aV])<;>assumption]at D;rw[show cG 65 ([.mk 3 K S Q xs]) (bf ([.mk 3 K S Q xs])) ([]) (.mk 2 us::r)=(if(cT (cA xs (r,false)) (ee (.mk 2 us::r))).2≠0 then aP (cT (cA xs (r,false)) (ee (.mk 2 us::r))).2 else ee r)from by simp[cG,bf,bR,aE,aA,aag,aah,aS]];have H:=W (.mk 3 K S Q xs) c9 (r) A SF;have N:=jU xs (r,false) A;simp only[cF]at H;generalize cA xs (r,false)=r1 at H N ⊢;obtain⟨⟨M,J⟩,e1⟩:=r1;simp only[aac,aad]at N;change bh _ _ _ _ (iW (if(cT ((M,J),e1) ((.mk 2 us::r,false),0)).2≠0 then aP (cT ((M,J),e1) ((.mk 2 us::r,false),0)).2 else _));have hm:=iI ((M,J),e1) ((.mk 2 us::r,false),0) N.1 oy;generalize cT ((M,J),e1) ((.mk 2 us::r,false),0)=rm at hm ⊢;obtain⟨⟨tm,bm⟩,em⟩:=rm;simp only;by_cases I:em≠0
   ·rw[if_pos I,aD I];have en:(em != 0)=true:=by simpa using I
    refine qn Tryz.func68 Tryz.call68 fun β hf=>?_;have BJ:=eI r bn;exact dw
   ·obtain rfl:em=0:=by simpa using I
    rw[if_neg cc];have hp:=jn (r);rw[aG]at hp;rw[aG];refine qn Tryz.func68 Tryz.call68 fun β hf=>?_;have GU:=eI r bn;exact dw
  ·have D:=aj (.mk T us::r) [2];rw[show fY (.mk T us::r) [2]=false from by(simp[bV,bW,aV,hT])<;>assumption]at D;rw[show cG 65 ([.mk 3 K S Q xs]) (bf ([.mk 3 K S Q xs])) ([]) (.mk T us::r)=aP 5 from by simp[cG,bR,aE,aA,aag,aah,aS,hT]];rw[aD cc];refine qn Tryz.func68 Tryz.call68 fun β hf=>?_;exact dw
 ·obtain⟨x0,y0,K,S,Q,xs,t,u,rfl,rfl,ht,hu⟩:=Fv hf rfl;clear hf;have Ro:=ht.2;obtain⟨V,G⟩:=t;have Rq:=hu.2;obtain⟨E,C⟩:=u;have hmi:=uw xs (by simp only[aU,b8]at hsz;omega);have zs:=aQ s;cases hb:jt xs;rotate_left
  ·rw[hb]at hmi;rw[show cG 66 ([x0,y0,.mk 3 K S Q xs]) (bf ([x0,y0,.mk 3 K S Q xs])) ([.mk V G,.mk E C]) s=aP 5 from by simp[cG,cF,hb],aD cc];refine qn Tryz.func68 Tryz.call68 fun β hf=>?_;exact dw
  ·rw[hb]at hmi;have hst:qx [Ty.mk V G]:=kT ht N5;rw[show cG 66 ([x0,y0,.mk 3 K S Q xs]) (bf ([x0,y0,.mk 3 K S Q xs])) ([.mk V G,.mk E C]) s=(if(cT (cA xs ([.mk V G],false)) (ee [.mk E C])).2≠0 then aP (cT (cA xs ([.mk V G],false)) (ee [.mk E C])).2 else ee (.mk 14 ([.mk V G,.mk E C])::s))from by simp[cG,A4,cF,hb,bR,aE,aA,aag,aah,aS]];have H:=W (.mk 3 K S Q xs) c9 ([.mk V G]) hst SF;have N:=jU xs ([.mk V G],false) hst;simp only[cF]at H;generalize cA xs ([.mk V G],false)=r1 at H N ⊢;obtain⟨⟨M,J⟩,e1⟩:=r1;simp only[aac,aad]at N;change bh _ _ _ _ (iW (if(cT ((M,J),e1) (([.mk E C],false),0)).2≠0 then aP (cT ((M,J),e1) (([.mk E C],false),0)).2 else _));have hm:=iI ((M,J),e1) (([.mk E C],false),0) N.1 oy;generalize cT ((M,J),e1) (([.mk E C],false),0)=rm at hm ⊢;obtain⟨⟨tm,bm⟩,em⟩:=rm;simp only;by_cases I:em≠0
   ·rw[if_pos I,aD I];have en:(em != 0)=true:=by simpa using I
    refine qn Tryz.func68 Tryz.call68 fun β hf=>?_;exact dw
   ·obtain rfl:em=0:=by simpa using I
    rw[if_neg cc];have hp:=bC (s) [.mk 14 [.mk V G,.mk E C]];rw[aG]at hp;rw[aG];refine qn Tryz.func68 Tryz.call68 fun β hf=>?_;have Jd:=dB 14 [.mk V G,.mk E C];exact dw
 ·obtain⟨rfl,rfl⟩:=cY hf rfl;clear hf;rcases s with _|⟨⟨T,us⟩,_|⟨⟨U,vs⟩,q⟩⟩
  ·have D:=aj ([]) [0,14];rw[show fY ([]) [0,14]=false from by(simp[bV,bW,aV])<;>assumption]at D;rw[show cG 67 ([]) (bf ([])) ([]) ([])=aP 5 from by simp[cG,bR,aE,aA,aag,aah,aS]];rw[aD cc];refine qn Tryz.func68 Tryz.call68 fun β hf=>?_;exact dw
  ·have D:=aj ([.mk T us]) [0,14];rw[show fY ([.mk T us]) [0,14]=false from by(simp[bV,bW,aV])<;>assumption]at D;rw[show cG 67 ([]) (bf ([])) ([]) ([.mk T us])=aP 5 from by simp[cG,bR,aE,aA,aag,aah,aS]];rw[aD cc];refine qn Tryz.func68 Tryz.call68 fun β hf=>?_;exact dw
  by_cases hU:U=14
  ·subst hU;obtain⟨⟨X,zs⟩,⟨Y,O⟩,rfl,hx,hy⟩:=eL (hs (.mk 14 vs) c9) rfl;have D:=aj (.mk T us :: .mk 14 [.mk X zs,.mk Y O]::q) [0,14];rw[show fY (.mk T us :: .mk 14 [.mk X zs,.mk Y O]::q) [0,14]=true from by(simp[bV,bW,aV])<;>assumption]at D;have h1:=gF (.mk T us) (.mk X zs) (by have:=(hs (.mk T us) c9).2;omega);cases g1:cP (.mk T us) (.mk X zs)
   ·rw[g1]at h1;rw[show cG 67 ([]) (bf ([])) ([]) (.mk T us :: .mk 14 [.mk X zs,.mk Y O]::q)=aP 5 from by simp[cG,bR,aE,aA,aag,aah,aS,g1]];rw[aD cc];refine qn Tryz.func68 Tryz.call68 fun β hf=>?_;exact dw
   ·rw[g1]at h1;have hp:=bC (q) [.mk Y O];rw[aG]at hp;rw[show cG 67 ([]) (bf ([])) ([]) (.mk T us :: .mk 14 [.mk X zs,.mk Y O]::q)=ee (.mk Y O::q)from by simp[cG,bR,aE,aA,aag,aah,aS,g1]];rw[aG];refine qn Tryz.func68 Tryz.call68 fun β hf=>?_;exact dw
  ·have D:=aj (.mk T us :: .mk U vs::q) [0,14];rw[show fY (.mk T us :: .mk U vs::q) [0,14]=false from by(simp[bV,bW,aV,hU])<;>assumption]at D;rw[show cG 67 ([]) (bf ([])) ([]) (.mk T us :: .mk U vs::q)=aP 5 from by simp[cG,bR,aE,aA,aag,aah,aS,hU]];rw[aD cc];refine qn Tryz.func68 Tryz.call68 fun β hf=>?_;exact dw
 ·obtain⟨K,S,Q,xs,rfl,rfl⟩:=GX hf rfl;clear hf;rcases s with _|⟨⟨T,us⟩,r⟩
  ·rw[show cG 68 ([.mk 3 K S Q xs]) (bf ([.mk 3 K S Q xs])) ([]) ([])=aP 5 from by simp[cG,bR,aE,aA,aag,aah,aS]];rw[aD cc];refine qn Tryz.func68 Tryz.call68 fun β hf=>?_;exact dw
  have D:=xx (aq (.mk T us::r)) 0 uf;have A:=(od hs).2;have zr:=aQ r;simp only[aac]at hl;rw[show cG 68 ([.mk 3 K S Q xs]) (bf ([.mk 3 K S Q xs])) ([]) (.mk T us::r)=(if(cA xs (r,false)).2≠0 then aP (cA xs (r,false)).2 else if(cA xs (r,false)).1.2=true then aP 1 else ee (.mk T us::(cA xs (r,false)).1.1))from by simp[cG,bf,bR,aE,aA,aag,aah,aS]];have H:=W (.mk 3 K S Q xs) c9 (r) A SF;have N:=jU xs (r,false) A;simp only[cF]at H;generalize cA xs (r,false)=r1 at H N ⊢;obtain⟨⟨M,J⟩,e1⟩:=r1;simp only[aac,aad]at N;simp only;by_cases I:e1≠0
  ·rw[if_pos I,aD I];have en:(e1 != 0)=true:=by simpa using I
   refine qn Tryz.func68 Tryz.call68 fun β hf=>?_;have Je:=eI r bn;exact dw
  obtain rfl:e1=0:=by simpa using I
  rw[if_neg cc];cases J
  ·rw[if_neg cc];have hp:=bC (M) [.mk T us];rw[aG]at hp;rw[aG];refine qn Tryz.func68 Tryz.call68 fun β hf=>?_;have LR:=eI r bn;exact dw
  ·rw[if_pos rfl,aD cc];refine qn Tryz.func68 Tryz.call68 fun β hf=>?_;have Rn:=eI r bn;exact dw
end Go.Proofs
namespace Go.cq
theorem BF:∀(a b:List UInt8),Lib.compareBytes a b=eA a b
 | [],[]=>rfl
 | [],_::_=>rfl
 | _::_,[]=>rfl
 | x::a,y::b=>by
  have S:=BF a b;unfold eA at S ⊢;simp only[Lib.compareBytes,Op.bytesLess];by_cases h1:x<y
  ·simp[h1]
  ·grind
section
variable {P : Program} {X : Ctx} {ops : Array Oper} {o : Oper} {rest : List Oper} {env : Env} {acc : List Fp} {Q : Env -> St -> List Fp -> Prop} {σ : St}
theorem bU.NU {fn : Func} {f : FuncId} (hf : P.funcs[f]? = some fn) (hname : (fn.name == "runtime.NumGoroutine") = false) (hb : fn.body.isNone = true) (hn : Extern.findNext fn = none) (he : Extern.find fn = some Extern.BytealgCompare.compare)
  {args:Array Operand} {ts:Array TypeId} (ho:o.op = .call {callee := .value (.func f),args:=args,argTypes:=ts}) {x y:Operand} (hargs:args = #[x,y]) {a b:List UInt8} (hx:aL X env x=some (.c (.str a))) (hy:aL X env y=some (.c (.str b))) :
  bU P X o env σ (.c (.int .i64 (eA a b))) (fun σ=>σ) ⟨[],[]⟩:=by
 subst hargs;refine bU.val fun cV w g act h1 ij cy di=>?_;have hx':aL X cV x=some (.c (.str a)):=by rw[h1 x K0];exact hx
 have hy':aL X cV y=some (.c (.str b)):=by rw[h1 y K0];exact hy
 have rx:=ct (a:=act) di cy hx';have ry:=ct (a:=act) di cy hy';simp only[aK,Rel]at rx ry;refine⟨.int .i64 (eA a b),?_,by simp only[aK,Rel]⟩;have hrun:(callFunc f #[act.eval x,act.eval y]).run P w = .ok (.value (.int .i64 (eA a b))) w:=by
  rw[run_callFunc_extern hf hname hb hn he,rx,ry,Lib.run_compareString];simp only[Result.andThen];rw[<- BF]
 obtain⟨dst,op,type,pos,after,guard⟩:=o;simp only at ho;subst ho;simpa[execOp,resolve,Deferred.ofValue,invoke,Act.eval]using hrun
theorem ai.NU {fn:Func} {f:FuncId} (kn:List Nat) (hg:cU ops.toList kn env o=some true) {args:Array Operand} {ts:Array TypeId} (ho:o.op = .call {callee := .value (.func f),args:=args,argTypes:=ts}) (hf:P.funcs[f]?=some fn)
  (hname : (fn.name == "runtime.NumGoroutine") = false) (hb : fn.body.isNone = true) (hn : Extern.findNext fn = none) (he : Extern.find fn = some Extern.BytealgCompare.compare)
  {d:Nat} (hd:o.dst=some d) {x y:Operand} (hargs:args = #[x,y]) {a b:List UInt8} (hx:aL X env x=some (.c (.str a))) (hy:aL X env y=some (.c (.str b)))
  (k:ai P X ops rest ((d,.c (.int .i64 (eA a b)))::env) σ (⟨[],[]⟩::acc) Q):ai P X ops (o::rest) env σ acc Q :=
 ai.step (dj hg) (bU.NU hf hname hb hn he ho hargs hx hy) (gR.id _) tN
end
theorem Uf (k n a:Int) (s:List UInt8) (args:List Vl) (B:List Ty) (H:List Nd):lB (.mk k n a s args B H)=1+s.length/8+jj args:=rfl
theorem NV:jj []=0:=rfl
theorem Lp (x:Vl) (l:List Vl):jj (x::l)=lB x+jj l:=rfl
mutual
theorem NW:∀t:Vl,lB t<=aM t
 | .mk k n a s args B H=>by have:=vM args;simp only[lB,aM];omega
theorem vM:∀l:List Vl,jj l<=aJ l
 | []=>aak _
 | t::l=>by have:=NW t;have:=vM l;simp only[jj,aJ];omega
end
end Go.cq
namespace Go.Proofs
open Go.cq
theorem ez {l:List Vl} {i:Nat} {x:Vl} (h:l[i]?=some x):(aa l)[i]?=some (bM x):=by rw[jx,h];rfl
theorem xD {l:List Vl} {i:Nat} {x:Vl} (h:l[i]?=some x):decide (((i:Nat):Int)<(((aa l).length:Nat):Int))=true:=dec_lt (by have:=bB h;rw[az];omega)
theorem sU {l:List Vl} {i:Nat} (h:i=l.length):decide (((i:Nat):Int)<(((aa l).length:Nat):Int))=false:=GM (by rw[az];omega)
theorem Yg {a b:Nat} (h:a+b<1099511627776):some (AV.c (CV.int .i64 (IntKind.i64.wrap ((a:Int)+(b:Int)))))=some (AV.c (CV.int .i64 ((a+b:Nat):Int))):=by
 rw[gW bn bn];rfl
theorem Lq:∀(l r:List Vl),qw oO l r=gN l r
 | [],[]=>rfl
 | [],_::_=>rfl
 | _::_,[]=>rfl
 | x::l,y::r=>by simp[qw,gN,Lq l r]
attribute [local irreducible] AK ai bh bt lB jj
theorem BY (a b:List UInt8):ag 131 [.str a,.str b] (.int .i64 (eA a b)):=by
 refine qn Tryz.func131 Tryz.call131 fun β hf=>?_
 repeat' (first|refine nP ?_|refine ai.NU kn rfl rfl Tryz.func145 (by kernel_rfl) (by kernel_rfl) (by kernel_rfl) (by kernel_rfl) rfl rfl rfl rfl ?_)
 all_goals rfl
theorem AY (a b:List UInt8):ag 104 [.str a,.str b] (.int .i64 (eA a b)):=by
 have h1:=BY a b;refine qn Tryz.func104 Tryz.call104 fun β hf=>?_;exact dq
theorem yl (a b:Int):ag 105 [.int .i64 a,.int .i64 b] (.int .i64 (ud a b)):=by
 unfold ud;by_cases h1:a<b
 ·have q:decide (a<b)=true:=aam h1;rw[if_pos h1];refine qn Tryz.func105 Tryz.call105 fun β hf=>?_;exact dq
 ·have q:decide (a<b)=false:=aan h1;rw[if_neg h1];by_cases h2:a>b
  ·have J:decide (a>b)=true:=aam h2;rw[if_pos h2];refine qn Tryz.func105 Tryz.call105 fun β hf=>?_;exact dq
  ·have J:decide (a>b)=false:=aan h2;rw[if_neg h2];refine qn Tryz.func105 Tryz.call105 fun β hf=>?_;exact dq
set_option maxHeartbeats 1000000 in
theorem Fh (l:List Vl) (p:Vl->Bool) (f:FuncId) (caps:List CV) (hp:∀x∈l,ag f (bM x::caps) (.bool (p x))) (hlen:l.length<=1099511627776) :
  ag 79 [.sl 7 (aa l),.rM f caps] (.int .i64 (idxOf p l)):=by
 refine qn Tryz.func79 Tryz.call79 fun β hf=>?_;refine AK.LM Tryz.hX Tryz.mixed 300 rfl ?_;refine AK.eK (α:=Nat) (fun i=>i<=l.length/\∀(j:Nat) x,j<i->l[j]?=some x->p x=false) (fun i=>l.length-i)
  (fun i=>[(8,.c (.int .i64 i)),(7,.c (.int .i64 (aa l).length)),(0,.c (.sl 7 (aa l))),(1,.c (.rM f caps))]) (fun _=>[]) (fun _=>[]) [] 0
  ⟨bn,by intro j x h;omega⟩ ⟨.inl rfl,.inl rfl,.inl rfl,.inl rfl,trivial⟩ trivial trivial rfl rfl rfl ?_
 rintro i ⟨hi,hno⟩ ih
 repeat' (first|refine nP ?_|(refine zc ?_ ?_<;>intro h<;>first|(cases h;done)|rw[h]|skip))
 ·have hlt:i<l.length:=by simpa[az]using h
  obtain⟨⟨a1,a2,a3,a4,a5,a6,a7⟩,hx⟩:∃x,l[i]?=some x:=⟨l[i],by simp[hlt]⟩
  refine ai.index Tryz.hX rfl rfl rfl rfl rfl rfl rfl rfl rfl rfl i rfl (by rw[jx,hx];rfl) rfl ?_
  repeat' (first|refine nP ?_|(refine zc ?_ ?_<;>intro h<;>first|(cases h;done)|rw[h]|skip)|refine uC rfl (hp ⟨a1,a2,a3,a4,a5,a6,a7⟩ (aaw hx)) ?_)
  ·rw[uv p l i ⟨a1,a2,a3,a4,a5,a6,a7⟩ hx h hno]
  ·have Af:=h
   have YQ:=ih (i+1) ⟨bn,fun j x hj U9=>by
    by_cases hji:j=i
    ·subst hji;rw[hx]at U9;simp at U9;subst U9;exact Af
    ·exact hno j x bn U9⟩ bn
   refine AK.again YQ ⟨.inl ?_,.inl rfl,.inl rfl,.inl rfl,trivial⟩ trivial trivial rfl rfl rfl;rw[gW bn bn];rfl
 ·have hge:l.length<=i:=by simpa[az]using h
  rw[xB p l fun j y hy=>hno j y Q3 hy]
theorem sI (l:List Vl) (p:Vl->Bool) (f:FuncId) (W:List CV) (A:∀x∈l,ag f (bM x::W) (.bool (p x))) (Y:l.length<=1099511627776) :
  ag 52 [.sl 7 (aa l),.rM f W] (.bool (l.any p)):=by
 refine qn Tryz.func52 Tryz.call52 fun β hf=>?_
 repeat' (first|refine nP ?_|refine uC rfl (Fh l p f W A Y) ?_)
 rw[zT]
theorem EA (l r:List Vl) (q:Vl->Vl->Bool) (f:FuncId) (W:List CV) (V:∀x∈l,∀y∈r,ag f (bM x::bM y::W) (.bool (q x y))) (Y:l.length<=1099511627776) :
  ag 27 [.sl 7 (aa l),.sl 7 (aa r),.rM f W] (.bool (qw q l r)):=by
 by_cases A:l.length=r.length
 ·have J:((((aa l).length:Nat):Int) != (((aa r).length:Nat):Int))=false:=by rw[az,az,A];simp
  refine qn Tryz.func27 Tryz.call27 fun β hf=>?_
  repeat' (first|refine nP ?_|(refine zc ?_ ?_<;>intro h<;>first|(cases h;done)|rw[h]|skip))
  refine AK.eK (α:=Nat) (fun i=>i<=l.length/\qw q l r=qw q (l.drop i) (r.drop i)) (fun i=>l.length-i)
   (fun i=>[(17,.c (.int .i64 i)),(16,.c (.int .i64 (aa l).length)),(15,.c (.sl 7 (aa l))),(1,.c (.sl 7 (aa r))),(2,.c (.rM f W))]) (fun _=>[]) (fun _=>[]) [] 0
   ⟨bn,rfl⟩ ⟨.inl rfl,.inl rfl,.inl rfl,.inl rfl,.inl rfl,trivial⟩ trivial trivial rfl rfl rfl ?_
  rintro i ⟨I,T⟩ ih;rcases fT l i I with ⟨x,O,M⟩|P
  ·have E:=xD O;obtain⟨y,N⟩:∃y,r[i]?=some y:=⟨r[i]' sk,c9⟩
   have hq:=V x M y (aaw N);rw[dV O,dV N]at T;simp only[qw]at T;obtain⟨u,H,p,G,D,U,S⟩:=x;obtain⟨Q,K,C,B,b5,b6,b7⟩:=y
   repeat' (first|refine nP ?_|(refine zc ?_ ?_<;>intro h<;>first|(cases h;done)|rw[h]|skip)|refine uI rfl (i) rfl (ez O) rfl ?_|refine uI rfl (i) rfl (ez N) rfl ?_|refine uC rfl hq ?_)
   ·rw[T];simp_all
   ·refine AK.again (ih (i+1) ⟨bB O,?_⟩ sk) ⟨.inl (iE sk),.inl rfl,.inl rfl,.inl rfl,.inl rfl,trivial⟩ trivial trivial rfl rfl rfl;simp_all
  ·have E:=sU P
   repeat' (first|refine nP ?_|(refine zc ?_ ?_<;>intro h<;>first|(cases h;done)|rw[h]|skip))
   rw[T,Cy q A P]
 ·have J:((((aa l).length:Nat):Int) != (((aa r).length:Nat):Int))=true:=by rw[az,az];simp;omega
  rw[yx q l r A];refine qn Tryz.func27 Tryz.call27 fun β hf=>?_;exact dq
theorem DQ:∀(t:Vl),aM t<=8589934593->ag 132 [bM t] (.int .i64 (lB t))
 | .mk k n a s args B H,M=>by
  have Y:=vM args;simp only[aM]at M;have S:=gM args;have N:∀x∈args,ag 132 [bM x] (.int .i64 (lB x)):=fun x O=>DQ x Sv;have u:IntKind.i64.wrap (1+IntKind.i64.wrap (((s.length:Nat):Int).tdiv 8))=((1+s.length/8:Nat):Int):=by
   rw[show(8:Int)=((8:Nat):Int)from rfl,<- Int.ofNat_tdiv,gW (n:=((s.length/8:Nat):Int)) bn bn,gW bn bn];omega
  rw[Uf];refine qn Tryz.func132 Tryz.call132 fun β hf=>?_
  repeat' (first|refine nP ?_|(refine zc ?_ ?_<;>intro h<;>first|(cases h;done)|rw[h]|skip))
  refine AK.eK (α:=Nat×Nat) (fun z=>z.1<=args.length/\1+s.length/8+jj args=z.2+jj (args.drop z.1)) (fun z=>args.length-z.1)
   (fun z=>[(14,.c (.int .i64 z.1)),(13,.c (.int .i64 (aa args).length)),(12,.c (.sl 7 (aa args))),(3,.c (.int .i64 z.2))]) (fun _=>[]) (fun _=>[]) [] (0,1+s.length/8)
   ⟨bn,by rw[List.drop_zero]⟩ ⟨.inl rfl,.inl rfl,.inl rfl,.inl (congrArg (fun z=>some (AV.c (CV.int .i64 z))) u),trivial⟩ trivial trivial rfl rfl rfl ?_
  rintro⟨i,m⟩ ⟨W,T⟩ ih;simp only at W T;rcases fT args i W with ⟨x,O,V⟩|P
  ·have E:=xD O;have hq:=N x V;rw[dV O,Lp]at T;have h2:=bB O;generalize lB x=q at hq T;obtain⟨Q,K,J,C,I,G,D⟩:=x
   repeat' (first|refine nP ?_|(refine zc ?_ ?_<;>intro h<;>first|(cases h;done)|rw[h]|skip)|refine uI rfl (i) rfl (ez O) rfl ?_|refine uC rfl hq ?_)
   refine AK.again (ih (i+1,m+q) ⟨h2,by show 1+s.length/8+jj args=m+q+jj (args.drop (i+1));omega⟩ fc) ⟨.inl (iE bn),.inl rfl,.inl rfl,.inl (Yg (a:=m) (b:=q) bn),trivial⟩ trivial trivial rfl rfl rfl
  ·have E:=sU P;have U:1+s.length/8+jj args=m:=by rw[T,P,List.drop_length,NV,Nat.add_zero]
   clear ih
   repeat' (first|refine nP ?_|(refine zc ?_ ?_<;>intro h<;>first|(cases h;done)|rw[h]|skip))
   show(_:CV)=_;rw[U]
termination_by t=>SizeOf.sizeOf t
decreasing_by
 have:=List.sizeOf_lt_of_mem O;simp at this ⊢;omega
theorem ue:∀(t u:Nd),b8 t<=1099511627776->ag 31 [aX t,aX u] (.bool (oF t u))
 | .mk C H p Y args,.mk W P V U us,M=>by
  simp only[b8]at M;have T:=fP args;have hq:=uq args us oF 31 [] (fun x O y _=>ue x y SB) bn;rw[Cx]at hq;refine qn Tryz.func31 Tryz.call31 fun β hf=>?_
  repeat' (first|refine nP ?_|refine uC rfl hq ?_|((first|refine GK ?_|refine zu ?_ ?_)<;>intro h<;>(fail_if_success (cases h;done))<;>rw[h]))
  all_goals
   show(_:CV)=_;clear hf hq;simp_all [oF]
termination_by t=>SizeOf.sizeOf t
decreasing_by
 have:=List.sizeOf_lt_of_mem O;simp at this ⊢;omega
end Go.Proofs
