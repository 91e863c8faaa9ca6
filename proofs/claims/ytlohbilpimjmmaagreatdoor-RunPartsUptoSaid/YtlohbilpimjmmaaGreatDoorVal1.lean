/- What control of package check answers. Texts compared, and what sign, plain, address, Size, Same and the library's searches over values answer. -/
import Derived.Test.YtlohbilpimjmmaaGreatDoorChk3
import Derived.Test.YtlohbilpimjmmaaGreatDoorBits
import Derived.Test.YtlohbilpimjmmaaGreatDoorVRef
import Derived.Laws.Externs
import Derived.Lib.Bytealg
set_option maxHeartbeats 0
set_option linter.unusedVariables false
set_option linter.unusedSimpArgs false
set_option maxRecDepth 100000
namespace Go.Proofs
open Go.cu
attribute [local irreducible] AK ai bw bz aZ fG lE gh jv bA cw eX bf ju iB
theorem CG (P nN:Int) (nS:List UInt8) (args:List Nd) (H s:List Ty) (hP:64<=P/\P<=68) (hf:bQ P args=some H) (hs:qv s) (hl:s.length<=9999999990) (hsz:aQ args<=8589934593)
  (W:∀a∈args,∀s':List Ty,qv s'->s'.length<=s.length+1->ah 20 [.sl 5 (aH (bh a)),.sl 2 (aE s')] (qz (cw (bh a) (s',false)))) :
  ah 68 [aW (.mk 2 nN P nS args),.sl 2 (aE H),.sl 2 (aE s)] (iU (cI P args (bf args) H s)):=by
 have Pj:P=64\/P=65\/P=66\/P=67\/P=68:=by omega
 clear hP;rcases Pj with rfl|rfl|rfl|rfl|rfl
 ·obtain⟨K,S,Q,xs,p,p2,S2,O,rfl,rfl⟩:=yq hf rfl;clear hf;rcases s with _|⟨⟨T,us⟩,r⟩
  ·have D:=aj ([]) [2];rw[show gd ([]) [2]=false from by(simp[bX,bY,aV])<;>assumption]at D;rw[show cI 64 ([.mk 3 K S Q xs,.mk 3 p p2 S2 O]) (bf ([.mk 3 K S Q xs,.mk 3 p p2 S2 O])) ([]) ([])=aP 5 from by simp[cI,bS,aD,au,aad,aai,aS]];rw[aB cc];refine qn Tryz.func68 Tryz.call68 fun β hf=>?_;exact dw
  by_cases hT:T=2
  ·subst hT;simp only[aaa]at hl;have zr:=aY r;have A:=(nZ hs).2;have D:=aj (.mk 2 us::r) [2];rw[show gd (.mk 2 us::r) [2]=true from by(simp[bX,bY,aV])<;>assumption]at D;have G:=W (.mk 3 K S Q xs) cn (r) A eg;have N:=jW xs (r,false) A;have w2:=W (.mk 3 p p2 S2 O) cn (r) A eg;have o2:=jW O (r,false) A;rw[show cI 64 ([.mk 3 K S Q xs,.mk 3 p p2 S2 O]) (bf ([.mk 3 K S Q xs,.mk 3 p p2 S2 O])) ([]) (.mk 2 us::r)=cT (cw xs (r,false)) (cw O (r,false))from by simp[cI,bS,aD,au,aad,aai,aS,bf]];simp only[bh]at G;generalize cw xs (r,false)=r1 at G N ⊢;obtain⟨⟨M,J⟩,e1⟩:=r1;simp only[aaa]at N;simp only[bh]at w2;generalize cw O (r,false)=r2 at w2 o2 ⊢;obtain⟨⟨t2,b2⟩,e2⟩:=r2;simp only[aaa]at o2;have hm:=iH ((M,J),e1) ((t2,b2),e2) N.1 n7;generalize cT ((M,J),e1) ((t2,b2),e2)=rm at hm ⊢;obtain⟨⟨tm,bm⟩,em⟩:=rm;refine qn Tryz.func68 Tryz.call68 fun β hf=>?_;have tW:=eJ r bn;exact dw
  ·have D:=aj (.mk T us::r) [2];rw[show gd (.mk T us::r) [2]=false from by(simp[bX,bY,aV,hT])<;>assumption]at D;rw[show cI 64 ([.mk 3 K S Q xs,.mk 3 p p2 S2 O]) (bf ([.mk 3 K S Q xs,.mk 3 p p2 S2 O])) ([]) (.mk T us::r)=aP 5 from by simp[cI,bS,aD,au,aad,aai,aS,hT]];rw[aB cc];refine qn Tryz.func68 Tryz.call68 fun β hf=>?_;exact dw
 ·obtain⟨K,S,Q,xs,rfl,rfl⟩:=GK hf rfl;clear hf;rcases s with _|⟨⟨T,us⟩,r⟩
  ·have D:=aj ([]) [2];rw[show gd ([]) [2]=false from by(simp[bX,bY,aV])<;>assumption]at D;rw[show cI 65 ([.mk 3 K S Q xs]) (bf ([.mk 3 K S Q xs])) ([]) ([])=aP 5 from by simp[cI,bS,aD,au,aad,aai,aS]];rw[aB cc];refine qn Tryz.func68 Tryz.call68 fun β hf=>?_;exact dw
  by_cases hT:T=2
  ·subst hT;simp only[aaa]at hl;have zr:=aY r;have A:=(nZ hs).2;have D:=aj (.mk 2 us::r) [2];rw[show gd (.mk 2 us::r) [2]=true from by(simp[bX,bY,aV])<;>assumption]at D;rw[show cI 65 ([.mk 3 K S Q xs]) (bf ([.mk 3 K S Q xs])) ([]) (.mk 2 us::r)=(if(cT (cw xs (r,false)) (ep (.mk 2 us::r))).2≠0 then aP (cT (cw xs (r,false)) (ep (.mk 2 us::r))).2 else ep r)from by simp[cI,bf,bS,aD,au,aad,aai,aS]];have G:=W (.mk 3 K S Q xs) cn (r) A TB;have N:=jW xs (r,false) A;simp only[bh]at G;generalize cw xs (r,false)=r1 at G N ⊢;obtain⟨⟨M,J⟩,e1⟩:=r1;simp only[aaa,aab]at N;change bw _ _ _ _ (iU (if(cT ((M,J),e1) ((.mk 2 us::r,false),0)).2≠0 then aP (cT ((M,J),e1) ((.mk 2 us::r,false),0)).2 else _));have hm:=iH ((M,J),e1) ((.mk 2 us::r,false),0) N.1 n7;generalize cT ((M,J),e1) ((.mk 2 us::r,false),0)=rm at hm ⊢;obtain⟨⟨tm,bm⟩,em⟩:=rm;simp only;by_cases I:em≠0
   ·rw[if_pos I,aB I];have en:(em != 0)=true:=by simpa using I
    refine qn Tryz.func68 Tryz.call68 fun β hf=>?_;have BD:=eJ r bn;exact dw
   ·obtain rfl:em=0:=by simpa using I
    rw[if_neg cc];have hp:=jq (r);rw[aG]at hp;rw[aG];refine qn Tryz.func68 Tryz.call68 fun β hf=>?_;have GH:=eJ r bn;exact dw
  ·have D:=aj (.mk T us::r) [2];rw[show gd (.mk T us::r) [2]=false from by(simp[bX,bY,aV,hT])<;>assumption]at D;rw[show cI 65 ([.mk 3 K S Q xs]) (bf ([.mk 3 K S Q xs])) ([]) (.mk T us::r)=aP 5 from by simp[cI,bS,aD,au,aad,aai,aS,hT]];rw[aB cc];refine qn Tryz.func68 Tryz.call68 fun β hf=>?_;exact dw
 ·obtain⟨x0,y0,K,S,Q,xs,t,u,rfl,rfl,ht,hu⟩:=Fk hf rfl;clear hf;have VX:=ht.2;obtain⟨V,E⟩:=t;have Uq:=hu.2;obtain⟨C,B⟩:=u;have hmi:=uj xs (by simp only[aQ,bN]at hsz;omega);have zs:=aY s;cases hb:ju xs;rotate_left
  ·rw[hb]at hmi;rw[show cI 66 ([x0,y0,.mk 3 K S Q xs]) (bf ([x0,y0,.mk 3 K S Q xs])) ([.mk V E,.mk C B]) s=aP 5 from by simp[cI,bh,hb],aB cc];refine qn Tryz.func68 Tryz.call68 fun β hf=>?_;exact dw
  ·rw[hb]at hmi;have hst:qv [Ty.mk V E]:=kP ht NO;rw[show cI 66 ([x0,y0,.mk 3 K S Q xs]) (bf ([x0,y0,.mk 3 K S Q xs])) ([.mk V E,.mk C B]) s=(if(cT (cw xs ([.mk V E],false)) (ep [.mk C B])).2≠0 then aP (cT (cw xs ([.mk V E],false)) (ep [.mk C B])).2 else ep (.mk 14 ([.mk V E,.mk C B])::s))from by simp[cI,AY,bh,hb,bS,aD,au,aad,aai,aS]];have G:=W (.mk 3 K S Q xs) cn ([.mk V E]) hst TB;have N:=jW xs ([.mk V E],false) hst;simp only[bh]at G;generalize cw xs ([.mk V E],false)=r1 at G N ⊢;obtain⟨⟨M,J⟩,e1⟩:=r1;simp only[aaa,aab]at N;change bw _ _ _ _ (iU (if(cT ((M,J),e1) (([.mk C B],false),0)).2≠0 then aP (cT ((M,J),e1) (([.mk C B],false),0)).2 else _));have hm:=iH ((M,J),e1) (([.mk C B],false),0) N.1 n7;generalize cT ((M,J),e1) (([.mk C B],false),0)=rm at hm ⊢;obtain⟨⟨tm,bm⟩,em⟩:=rm;simp only;by_cases I:em≠0
   ·rw[if_pos I,aB I];have en:(em != 0)=true:=by simpa using I
    refine qn Tryz.func68 Tryz.call68 fun β hf=>?_;exact dw
   ·obtain rfl:em=0:=by simpa using I
    rw[if_neg cc];have hp:=bF (s) [.mk 14 [.mk V E,.mk C B]];rw[aG]at hp;rw[aG];refine qn Tryz.func68 Tryz.call68 fun β hf=>?_;have IU:=dG 14 [.mk V E,.mk C B];exact dw
 ·obtain⟨rfl,rfl⟩:=cZ hf rfl;clear hf;rcases s with _|⟨⟨T,us⟩,_|⟨⟨U,vs⟩,q⟩⟩
  ·have D:=aj ([]) [0,14];rw[show gd ([]) [0,14]=false from by(simp[bX,bY,aV])<;>assumption]at D;rw[show cI 67 ([]) (bf ([])) ([]) ([])=aP 5 from by simp[cI,bS,aD,au,aad,aai,aS]];rw[aB cc];refine qn Tryz.func68 Tryz.call68 fun β hf=>?_;exact dw
  ·have D:=aj ([.mk T us]) [0,14];rw[show gd ([.mk T us]) [0,14]=false from by(simp[bX,bY,aV])<;>assumption]at D;rw[show cI 67 ([]) (bf ([])) ([]) ([.mk T us])=aP 5 from by simp[cI,bS,aD,au,aad,aai,aS]];rw[aB cc];refine qn Tryz.func68 Tryz.call68 fun β hf=>?_;exact dw
  by_cases hU:U=14
  ·subst hU;obtain⟨⟨X,zs⟩,⟨Y,O⟩,rfl,hx,hy⟩:=eN (hs (.mk 14 vs) cn) rfl;have D:=aj (.mk T us :: .mk 14 [.mk X zs,.mk Y O]::q) [0,14];rw[show gd (.mk T us :: .mk 14 [.mk X zs,.mk Y O]::q) [0,14]=true from by(simp[bX,bY,aV])<;>assumption]at D;have h1:=gH (.mk T us) (.mk X zs) (by have:=(hs (.mk T us) cn).2;omega);cases g1:cP (.mk T us) (.mk X zs)
   ·rw[g1]at h1;rw[show cI 67 ([]) (bf ([])) ([]) (.mk T us :: .mk 14 [.mk X zs,.mk Y O]::q)=aP 5 from by simp[cI,bS,aD,au,aad,aai,aS,g1]];rw[aB cc];refine qn Tryz.func68 Tryz.call68 fun β hf=>?_;exact dw
   ·rw[g1]at h1;have hp:=bF (q) [.mk Y O];rw[aG]at hp;rw[show cI 67 ([]) (bf ([])) ([]) (.mk T us :: .mk 14 [.mk X zs,.mk Y O]::q)=ep (.mk Y O::q)from by simp[cI,bS,aD,au,aad,aai,aS,g1]];rw[aG];refine qn Tryz.func68 Tryz.call68 fun β hf=>?_;exact dw
  ·have D:=aj (.mk T us :: .mk U vs::q) [0,14];rw[show gd (.mk T us :: .mk U vs::q) [0,14]=false from by(simp[bX,bY,aV,hU])<;>assumption]at D;rw[show cI 67 ([]) (bf ([])) ([]) (.mk T us :: .mk U vs::q)=aP 5 from by simp[cI,bS,aD,au,aad,aai,aS,hU]];rw[aB cc];refine qn Tryz.func68 Tryz.call68 fun β hf=>?_;exact dw
 ·obtain⟨K,S,Q,xs,rfl,rfl⟩:=GK hf rfl;clear hf;rcases s with _|⟨⟨T,us⟩,r⟩
  ·rw[show cI 68 ([.mk 3 K S Q xs]) (bf ([.mk 3 K S Q xs])) ([]) ([])=aP 5 from by simp[cI,bS,aD,au,aad,aai,aS]];rw[aB cc];refine qn Tryz.func68 Tryz.call68 fun β hf=>?_;exact dw
  have D:=xg (aE (.mk T us::r)) 0 sk;have A:=(nZ hs).2;have zr:=aY r;simp only[aaa]at hl;rw[show cI 68 ([.mk 3 K S Q xs]) (bf ([.mk 3 K S Q xs])) ([]) (.mk T us::r)=(if(cw xs (r,false)).2≠0 then aP (cw xs (r,false)).2 else if(cw xs (r,false)).1.2=true then aP 1 else ep (.mk T us::(cw xs (r,false)).1.1))from by simp[cI,bf,bS,aD,au,aad,aai,aS]];have G:=W (.mk 3 K S Q xs) cn (r) A TB;have N:=jW xs (r,false) A;simp only[bh]at G;generalize cw xs (r,false)=r1 at G N ⊢;obtain⟨⟨M,J⟩,e1⟩:=r1;simp only[aaa,aab]at N;simp only;by_cases I:e1≠0
  ·rw[if_pos I,aB I];have en:(e1 != 0)=true:=by simpa using I
   refine qn Tryz.func68 Tryz.call68 fun β hf=>?_;have IV:=eJ r bn;exact dw
  obtain rfl:e1=0:=by simpa using I
  rw[if_neg cc];cases J
  ·rw[if_neg cc];have hp:=bF (M) [.mk T us];rw[aG]at hp;rw[aG];refine qn Tryz.func68 Tryz.call68 fun β hf=>?_;have LB:=eJ r bn;exact dw
  ·rw[if_pos rfl,aB cc];refine qn Tryz.func68 Tryz.call68 fun β hf=>?_;have Re:=eJ r bn;exact dw
end Go.Proofs
namespace Go.cu
theorem BA:∀(a b:List UInt8),Lib.compareBytes a b=eB a b
 | [],[]=>rfl
 | [],_::_=>rfl
 | _::_,[]=>rfl
 | x::a,y::b=>by
  have S:=BA a b;unfold eB at S ⊢;simp only[Lib.compareBytes,Op.bytesLess];by_cases h1:x<y
  ·simp[h1]
  ·grind
section
variable {P : Program} {X : Ctx} {ops : Array Oper} {o : Oper} {rest : List Oper} {env : Env} {acc : List Fp} {Q : Env -> St -> List Fp -> Prop} {σ : St}
theorem bW.ND {fn : Func} {f : FuncId} (hf : P.funcs[f]? = some fn) (hname : (fn.name == "runtime.NumGoroutine") = false) (hb : fn.body.isNone = true) (hn : Extern.findNext fn = none) (he : Extern.find fn = some Extern.BytealgCompare.compare)
  {args:Array Operand} {ts:Array TypeId} (ho:o.op = .call {callee := .value (.func f),args:=args,argTypes:=ts}) {x y:Operand} (hargs:args = #[x,y]) {a b:List UInt8} (hx:aK X env x=some (.c (.str a))) (hy:aK X env y=some (.c (.str b))) :
  bW P X o env σ (.c (.int .i64 (eB a b))) (fun σ=>σ) ⟨[],[]⟩:=by
 subst hargs;refine bW.val fun cW w g act h1 ir cD di=>?_;have hx':aK X cW x=some (.c (.str a)):=by rw[h1 x Jz];exact hx
 have hy':aK X cW y=some (.c (.str b)):=by rw[h1 y Jz];exact hy
 have rx:=cz (a:=act) di cD hx';have ry:=cz (a:=act) di cD hy';simp only[aJ,Rel]at rx ry;refine⟨.int .i64 (eB a b),?_,by simp only[aJ,Rel]⟩;have hrun:(callFunc f #[act.eval x,act.eval y]).run P w = .ok (.value (.int .i64 (eB a b))) w:=by
  rw[run_callFunc_extern hf hname hb hn he,rx,ry,Lib.run_compareString];simp only[Result.andThen];rw[<- BA]
 obtain⟨dst,op,type,pos,after,guard⟩:=o;simp only at ho;subst ho;simpa[execOp,resolve,Deferred.ofValue,invoke,Act.eval]using hrun
theorem ai.ND {fn:Func} {f:FuncId} (kn:List Nat) (hg:cV ops.toList kn env o=some true) {args:Array Operand} {ts:Array TypeId} (ho:o.op = .call {callee := .value (.func f),args:=args,argTypes:=ts}) (hf:P.funcs[f]?=some fn)
  (hname : (fn.name == "runtime.NumGoroutine") = false) (hb : fn.body.isNone = true) (hn : Extern.findNext fn = none) (he : Extern.find fn = some Extern.BytealgCompare.compare)
  {d:Nat} (hd:o.dst=some d) {x y:Operand} (hargs:args = #[x,y]) {a b:List UInt8} (hx:aK X env x=some (.c (.str a))) (hy:aK X env y=some (.c (.str b)))
  (k:ai P X ops rest ((d,.c (.int .i64 (eB a b)))::env) σ (⟨[],[]⟩::acc) Q):ai P X ops (o::rest) env σ acc Q :=
 ai.step (dx hg) (bW.ND hf hname hb hn he ho hargs hx hy) (gX.id _) rj
end
theorem TT (k n a:Int) (s:List UInt8) (args:List Vl) (H:List Ty) (B:List Nd):lJ (.mk k n a s args H B)=1+s.length/8+jk args:=rfl
theorem NG:jk []=0:=rfl
theorem K8 (x:Vl) (l:List Vl):jk (x::l)=lJ x+jk l:=rfl
mutual
theorem NH:∀t:Vl,lJ t<=aM t
 | .mk k n a s args H B=>by have:=vF args;simp only[lJ,aM];omega
theorem vF:∀l:List Vl,jk l<=aL l
 | []=>aam _
 | t::l=>by have:=NH t;have:=vF l;simp only[jk,aL];omega
end
end Go.cu
namespace Go.Proofs
open Go.cu
theorem eF {l:List Vl} {i:Nat} {x:Vl} (h:l[i]?=some x):(aa l)[i]?=some (bP x):=by rw[jz,h];rfl
theorem xm {l:List Vl} {i:Nat} {x:Vl} (h:l[i]?=some x):decide (((i:Nat):Int)<(((aa l).length:Nat):Int))=true:=dec_lt (by have:=bD h;rw[az];omega)
theorem sK {l:List Vl} {i:Nat} (h:i=l.length):decide (((i:Nat):Int)<(((aa l).length:Nat):Int))=false:=Gz (by rw[az];omega)
theorem X0 {a b:Nat} (h:a+b<1099511627776):some (AV.c (CV.int .i64 (IntKind.i64.wrap ((a:Int)+(b:Int)))))=some (AV.c (CV.int .i64 ((a+b:Nat):Int))):=by
 rw[gZ bn bn];rfl
theorem K9:∀(l r:List Vl),qu oK l r=gJ l r
 | [],[]=>rfl
 | [],_::_=>rfl
 | _::_,[]=>rfl
 | x::l,y::r=>by simp[qu,gJ,K9 l r]
attribute [local irreducible] AK ai bw bz lJ jk
theorem BS (a b:List UInt8):ah 131 [.str a,.str b] (.int .i64 (eB a b)):=by
 refine qn Tryz.func131 Tryz.call131 fun β hf=>?_
 repeat' (first|refine nK ?_|refine ai.ND kn rfl rfl Tryz.func145 (by kernel_rfl) (by kernel_rfl) (by kernel_rfl) (by kernel_rfl) rfl rfl rfl rfl ?_)
 all_goals rfl
theorem AQ (a b:List UInt8):ah 104 [.str a,.str b] (.int .i64 (eB a b)):=by
 have h1:=BS a b;refine qn Tryz.func104 Tryz.call104 fun β hf=>?_;exact dq
theorem yb (a b:Int):ah 105 [.int .i64 a,.int .i64 b] (.int .i64 (tT a b)):=by
 unfold tT;by_cases h1:a<b
 ·have Y:decide (a<b)=true:=aan h1;rw[if_pos h1];refine qn Tryz.func105 Tryz.call105 fun β hf=>?_;exact dq
 ·have Y:decide (a<b)=false:=aaw h1;rw[if_neg h1];by_cases h2:a>b
  ·have J:decide (a>b)=true:=aan h2;rw[if_pos h2];refine qn Tryz.func105 Tryz.call105 fun β hf=>?_;exact dq
  ·have J:decide (a>b)=false:=aaw h2;rw[if_neg h2];refine qn Tryz.func105 Tryz.call105 fun β hf=>?_;exact dq
set_option maxHeartbeats 1000000 in
theorem E8 (l:List Vl) (p:Vl->Bool) (f:FuncId) (caps:List CV) (hp:∀x∈l,ah f (bP x::caps) (.bool (p x))) (hlen:l.length<=1099511627776) :
  ah 79 [.sl 7 (aa l),.rK f caps] (.int .i64 (idxOf p l)):=by
 refine qn Tryz.func79 Tryz.call79 fun β hf=>?_;refine AK.Lw Tryz.hX Tryz.mixed 300 rfl ?_;refine AK.eM (α:=Nat) (fun i=>i<=l.length/\∀(j:Nat) x,j<i->l[j]?=some x->p x=false) (fun i=>l.length-i)
  (fun i=>[(8,.c (.int .i64 i)),(7,.c (.int .i64 (aa l).length)),(0,.c (.sl 7 (aa l))),(1,.c (.rK f caps))]) (fun _=>[]) (fun _=>[]) [] 0
  ⟨bn,by intro j x h;omega⟩ ⟨.inl rfl,.inl rfl,.inl rfl,.inl rfl,trivial⟩ trivial trivial rfl rfl rfl ?_
 rintro i ⟨hi,hno⟩ ih
 repeat' (first|refine nK ?_|(refine zc ?_ ?_<;>intro h<;>first|(cases h;done)|rw[h]|skip))
 ·have hlt:i<l.length:=by simpa[az]using h
  obtain⟨⟨a1,a2,a3,a4,a5,a6,a7⟩,hx⟩:∃x,l[i]?=some x:=⟨l[i],by simp[hlt]⟩
  refine ai.index Tryz.hX rfl rfl rfl rfl rfl rfl rfl rfl rfl rfl i rfl (by rw[jz,hx];rfl) rfl ?_
  repeat' (first|refine nK ?_|(refine zc ?_ ?_<;>intro h<;>first|(cases h;done)|rw[h]|skip)|refine uC rfl (hp ⟨a1,a2,a3,a4,a5,a6,a7⟩ (aaz hx)) ?_)
  ·rw[uh p l i ⟨a1,a2,a3,a4,a5,a6,a7⟩ hx h hno]
  ·have yG:=h
   have YB:=ih (i+1) ⟨bn,fun j x hj UM=>by
    by_cases hji:j=i
    ·subst hji;rw[hx]at UM;simp at UM;subst UM;exact yG
    ·exact hno j x bn UM⟩ bn
   refine AK.again YB ⟨.inl ?_,.inl rfl,.inl rfl,.inl rfl,trivial⟩ trivial trivial rfl rfl rfl;rw[gZ bn bn];rfl
 ·have hge:l.length<=i:=by simpa[az]using h
  rw[xl p l fun j y hy=>hno j y RC hy]
theorem sB (l:List Vl) (p:Vl->Bool) (f:FuncId) (W:List CV) (T:∀x∈l,ah f (bP x::W) (.bool (p x))) (Y:l.length<=1099511627776) :
  ah 52 [.sl 7 (aa l),.rK f W] (.bool (l.any p)):=by
 refine qn Tryz.func52 Tryz.call52 fun β hf=>?_
 repeat' (first|refine nK ?_|refine uC rfl (E8 l p f W T Y) ?_)
 rw[zK]
theorem Es (l r:List Vl) (q:Vl->Vl->Bool) (f:FuncId) (W:List CV) (V:∀x∈l,∀y∈r,ah f (bP x::bP y::W) (.bool (q x y))) (Y:l.length<=1099511627776) :
  ah 27 [.sl 7 (aa l),.sl 7 (aa r),.rK f W] (.bool (qu q l r)):=by
 by_cases C:l.length=r.length
 ·have T:((((aa l).length:Nat):Int) != (((aa r).length:Nat):Int))=false:=by rw[az,az,C];simp
  refine qn Tryz.func27 Tryz.call27 fun β hf=>?_
  repeat' (first|refine nK ?_|(refine zc ?_ ?_<;>intro h<;>first|(cases h;done)|rw[h]|skip))
  refine AK.eM (α:=Nat) (fun i=>i<=l.length/\qu q l r=qu q (l.drop i) (r.drop i)) (fun i=>l.length-i)
   (fun i=>[(17,.c (.int .i64 i)),(16,.c (.int .i64 (aa l).length)),(15,.c (.sl 7 (aa l))),(1,.c (.sl 7 (aa r))),(2,.c (.rK f W))]) (fun _=>[]) (fun _=>[]) [] 0
   ⟨bn,rfl⟩ ⟨.inl rfl,.inl rfl,.inl rfl,.inl rfl,.inl rfl,trivial⟩ trivial trivial rfl rfl rfl ?_
  rintro i ⟨I,p⟩ ih;rcases gf l i I with ⟨x,O,u⟩|P
  ·have E:=xm O;obtain⟨y,A⟩:∃y,r[i]?=some y:=⟨r[i]' n8,cn⟩
   have hq:=V x u y (aaz A);rw[dO O,dO A]at p;simp only[qu]at p;obtain⟨U,S,G,K,Q,N,M⟩:=x;obtain⟨H,J,D,B,b5,b6,b7⟩:=y
   repeat' (first|refine nK ?_|(refine zc ?_ ?_<;>intro h<;>first|(cases h;done)|rw[h]|skip)|refine uI rfl (i) rfl (eF O) rfl ?_|refine uI rfl (i) rfl (eF A) rfl ?_|refine uC rfl hq ?_)
   ·rw[p];simp_all
   ·refine AK.again (ih (i+1) ⟨bD O,?_⟩ n8) ⟨.inl (iD n8),.inl rfl,.inl rfl,.inl rfl,.inl rfl,trivial⟩ trivial trivial rfl rfl rfl;simp_all
  ·have E:=sK P
   repeat' (first|refine nK ?_|(refine zc ?_ ?_<;>intro h<;>first|(cases h;done)|rw[h]|skip))
   rw[p,Cs q C P]
 ·have T:((((aa l).length:Nat):Int) != (((aa r).length:Nat):Int))=true:=by rw[az,az];simp;omega
  rw[yf q l r C];refine qn Tryz.func27 Tryz.call27 fun β hf=>?_;exact dq
theorem DN:∀(t:Vl),aM t<=8589934593->ah 132 [bP t] (.int .i64 (lJ t))
 | .mk k n a s args H B,Y=>by
  have V:=vF args;simp only[aM]at Y;have U:=iI args;have M:∀x∈args,ah 132 [bP x] (.int .i64 (lJ x)):=fun x O=>DN x C1;have S:IntKind.i64.wrap (1+IntKind.i64.wrap (((s.length:Nat):Int).tdiv 8))=((1+s.length/8:Nat):Int):=by
   rw[show(8:Int)=((8:Nat):Int)from rfl,<- Int.ofNat_tdiv,gZ (n:=((s.length/8:Nat):Int)) bn bn,gZ bn bn];omega
  rw[TT];refine qn Tryz.func132 Tryz.call132 fun β hf=>?_
  repeat' (first|refine nK ?_|(refine zc ?_ ?_<;>intro h<;>first|(cases h;done)|rw[h]|skip))
  refine AK.eM (α:=Nat×Nat) (fun z=>z.1<=args.length/\1+s.length/8+jk args=z.2+jk (args.drop z.1)) (fun z=>args.length-z.1)
   (fun z=>[(14,.c (.int .i64 z.1)),(13,.c (.int .i64 (aa args).length)),(12,.c (.sl 7 (aa args))),(3,.c (.int .i64 z.2))]) (fun _=>[]) (fun _=>[]) [] (0,1+s.length/8)
   ⟨bn,by rw[List.drop_zero]⟩ ⟨.inl rfl,.inl rfl,.inl rfl,.inl (congrArg (fun z=>some (AV.c (CV.int .i64 z))) S),trivial⟩ trivial trivial rfl rfl rfl ?_
  rintro⟨i,m⟩ ⟨W,p⟩ ih;simp only at W p;rcases gf args i W with ⟨x,O,u⟩|P
  ·have E:=xm O;have hq:=M x u;rw[dO O,K8]at p;have h2:=bD O;generalize lJ x=q at hq p;obtain⟨T,Q,N,K,J,I,G⟩:=x
   repeat' (first|refine nK ?_|(refine zc ?_ ?_<;>intro h<;>first|(cases h;done)|rw[h]|skip)|refine uI rfl (i) rfl (eF O) rfl ?_|refine uC rfl hq ?_)
   refine AK.again (ih (i+1,m+q) ⟨h2,by show 1+s.length/8+jk args=m+q+jk (args.drop (i+1));omega⟩ fc) ⟨.inl (iD bn),.inl rfl,.inl rfl,.inl (X0 (a:=m) (b:=q) bn),trivial⟩ trivial trivial rfl rfl rfl
  ·have E:=sK P;have A:1+s.length/8+jk args=m:=by rw[p,P,List.drop_length,NG,Nat.add_zero]
   clear ih
   repeat' (first|refine nK ?_|(refine zc ?_ ?_<;>intro h<;>first|(cases h;done)|rw[h]|skip))
   show(_:CV)=_;rw[A]
termination_by t=>SizeOf.sizeOf t
decreasing_by
 have:=List.sizeOf_lt_of_mem O;simp at this ⊢;omega
theorem tU:∀(t u:Nd),bN t<=1099511627776->ah 31 [aW t,aW u] (.bool (oC t u))
 | .mk C I G K args,.mk H Y U W us,M=>by
  simp only[bN]at M;have V:=eL args;have hq:=ue args us oC 31 [] (fun x O y _=>tU x y N8) bn;rw[Cr]at hq;refine qn Tryz.func31 Tryz.call31 fun β hf=>?_
  repeat' (first|refine nK ?_|refine uC rfl hq ?_|((first|refine Gw ?_|refine zu ?_ ?_)<;>intro h<;>(fail_if_success (cases h;done))<;>rw[h]))
  all_goals
   show(_:CV)=_;clear hf hq;simp_all [oC]
termination_by t=>SizeOf.sizeOf t
decreasing_by
 have:=List.sizeOf_lt_of_mem O;simp at this ⊢;omega
end Go.Proofs
