/- What control of package check answers. -/
import Derived.Test.YtdnpapgijbhofaaGreatDoorChk3
import Derived.Test.YtdnpapgijbhofaaGreatDoorVPar
import Derived.Laws.Externs
import Derived.Lib.Bytealg
import Derived.Test.YtdnpapgijbhofaaGreatDoorKind5
open Go.IntKind
open Go.Proofs.Tryz
set_option linter.defProp false
set_option maxHeartbeats 0
set_option linter.unusedVariables false
set_option linter.unusedSimpArgs false
set_option maxRecDepth 100000
namespace Go.Proofs
open Go.cM
attribute [local irreducible] AK ah aZ cx aW fq kH fO iV br cy fu aX iT gQ
def Br(P nN:Int)(nS:L UInt8)(J:L Nd)(Q s:L Ty)(hP:64<=P/\P<=68)(hf:bJ P J=some Q)(hs:pz s)(hl:s.length<=9999999990)(hsz:aS J<=8589934593)
  (S:∀a∈J,∀s':L Ty,pz s'->s'.length<=s.length+1->aj 59 [.sl 5 (aG (cJ a)),.sl 2 (au s')] (sq (cy (cJ a) (s',false)))) :
  aj 127 [aY (.mk 2 nN P nS J),.sl 2 (au Q),.sl 2 (au s)] (iu (cD P J (aX J) Q s)):=by
 have Nr:P=64\/P=65\/P=66\/P=67\/P=68:=by omega
 clear hP;rcases Nr with rfl|rfl|rfl|rfl|rfl
 ·obtain⟨I,W,p,xs,n2,p2,S2,G,rfl,rfl⟩:=wR hf rfl;clear hf;rcases s with _|⟨⟨T,us⟩,r⟩
  ·have D:=ai ([]) [2];rw[show fN ([]) [2]=false from by(simp[bR,bS,aU])<;>assumption]at D;rw[show cD 64 ([.mk 3 I W p xs,.mk 3 n2 p2 S2 G]) (aX ([.mk 3 I W p xs,.mk 3 n2 p2 S2 G])) ([]) ([])=aM 5 from by simp[cD,bM,aD,aq,aae,aaf,aQ]];rw[aA cc];refine qn func127 call127 λβ hf=>?_;exact dw
  by_cases hT:T=2
  ·subst hT;simp only[aac]at hl;have zr:=aR r;have A:=(mY hs).2;have D:=ai (.mk 2 us::r) [2];rw[show fN (.mk 2 us::r) [2]=true from by(simp[bR,bS,aU])<;>assumption]at D;have H:=S (.mk 3 I W p xs) ek (r) A fc;have O:=jt xs (r,false) A;have w2:=S (.mk 3 n2 p2 S2 G) ek (r) A fc;have o2:=jt G (r,false) A;rw[show cD 64 ([.mk 3 I W p xs,.mk 3 n2 p2 S2 G]) (aX ([.mk 3 I W p xs,.mk 3 n2 p2 S2 G])) ([]) (.mk 2 us::r)=cR (cy xs (r,false)) (cy G (r,false))from by simp[cD,bM,aD,aq,aae,aaf,aQ,aX]];simp only[cJ]at H;generalize cy xs (r,false)=r1 at H O ⊢;obtain⟨⟨N,M⟩,e1⟩:=r1;simp only[aac]at O;simp only[cJ]at w2;generalize cy G (r,false)=r2 at w2 o2 ⊢;obtain⟨⟨t2,b2⟩,e2⟩:=r2;simp only[aac]at o2;have hm:=gW ((N,M),e1) ((t2,b2),e2) O.1 rE;generalize cR ((N,M),e1) ((t2,b2),e2)=rm at hm ⊢;obtain⟨⟨tm,bm⟩,em⟩:=rm;refine qn func127 call127 λβ hf=>?_;have sQ:=eB r bn;exact dw
  ·have D:=ai (.mk T us::r) [2];rw[show fN (.mk T us::r) [2]=false from by(simp[bR,bS,aU,hT])<;>assumption]at D;rw[show cD 64 ([.mk 3 I W p xs,.mk 3 n2 p2 S2 G]) (aX ([.mk 3 I W p xs,.mk 3 n2 p2 S2 G])) ([]) (.mk T us::r)=aM 5 from by simp[cD,bM,aD,aq,aae,aaf,aQ,hT]];rw[aA cc];refine qn func127 call127 λβ hf=>?_;exact dw
 ·obtain⟨I,W,p,xs,rfl,rfl⟩:=E7 hf rfl;clear hf;rcases s with _|⟨⟨T,us⟩,r⟩
  ·have D:=ai ([]) [2];rw[show fN ([]) [2]=false from by(simp[bR,bS,aU])<;>assumption]at D;rw[show cD 65 ([.mk 3 I W p xs]) (aX ([.mk 3 I W p xs])) ([]) ([])=aM 5 from by simp[cD,bM,aD,aq,aae,aaf,aQ]];rw[aA cc];refine qn func127 call127 λβ hf=>?_;exact dw
  by_cases hT:T=2
  ·subst hT;simp only[aac]at hl;have zr:=aR r;have A:=(mY hs).2;have D:=ai (.mk 2 us::r) [2];rw[show fN (.mk 2 us::r) [2]=true from by(simp[bR,bS,aU])<;>assumption]at D;rw[show cD 65 ([.mk 3 I W p xs]) (aX ([.mk 3 I W p xs])) ([]) (.mk 2 us::r)=(if(cR (cy xs (r,false)) (dX (.mk 2 us::r))).2≠0 then aM (cR (cy xs (r,false)) (dX (.mk 2 us::r))).2 else dX r)from by simp[cD,aX,bM,aD,aq,aae,aaf,aQ]];have H:=S (.mk 3 I W p xs) ek (r) A VI;have O:=jt xs (r,false) A;simp only[cJ]at H;generalize cy xs (r,false)=r1 at H O ⊢;obtain⟨⟨N,M⟩,e1⟩:=r1;simp only[aac,aad]at O;change aZ _ _ _ _ (iu (if(cR ((N,M),e1) ((.mk 2 us::r,false),0)).2≠0 then aM (cR ((N,M),e1) ((.mk 2 us::r,false),0)).2 else _));have hm:=gW ((N,M),e1) ((.mk 2 us::r,false),0) O.1 rE;generalize cR ((N,M),e1) ((.mk 2 us::r,false),0)=rm at hm ⊢;obtain⟨⟨tm,bm⟩,em⟩:=rm;simp only;by_cases K:em≠0
   ·rw[if_pos K,aA K];have en:(em != 0)=true:=by simpa using K
    refine qn func127 call127 λβ hf=>?_;have Bf:=eB r bn;exact dw
   ·obtain rfl:em=0:=by simpa using K
    rw[if_neg cc];have hp:=iM (r);rw[aF]at hp;rw[aF];refine qn func127 call127 λβ hf=>?_;have E4:=eB r bn;exact dw
  ·have D:=ai (.mk T us::r) [2];rw[show fN (.mk T us::r) [2]=false from by(simp[bR,bS,aU,hT])<;>assumption]at D;rw[show cD 65 ([.mk 3 I W p xs]) (aX ([.mk 3 I W p xs])) ([]) (.mk T us::r)=aM 5 from by simp[cD,bM,aD,aq,aae,aaf,aQ,hT]];rw[aA cc];refine qn func127 call127 λβ hf=>?_;exact dw
 ·obtain⟨x0,y0,I,W,p,xs,t,u,rfl,rfl,ht,hu⟩:=DU hf rfl;clear hf;have TP:=ht.2;obtain⟨V,E⟩:=t;have Sh:=hu.2;obtain⟨C,B⟩:=u;have hmi:=sU xs (by simp only[aS,bZ]at hsz;omega);have zs:=aR s;cases hb:iT xs;rotate_left
  ·rw[hb]at hmi;rw[show cD 66 ([x0,y0,.mk 3 I W p xs]) (aX ([x0,y0,.mk 3 I W p xs])) ([.mk V E,.mk C B]) s=aM 5 from by simp[cD,cJ,hb],aA cc];refine qn func127 call127 λβ hf=>?_;exact dw
  ·rw[hb]at hmi;have hst:pz [Ty.mk V E]:=jX ht LY;rw[show cD 66 ([x0,y0,.mk 3 I W p xs]) (aX ([x0,y0,.mk 3 I W p xs])) ([.mk V E,.mk C B]) s=(if(cR (cy xs ([.mk V E],false)) (dX [.mk C B])).2≠0 then aM (cR (cy xs ([.mk V E],false)) (dX [.mk C B])).2 else dX (.mk 14 ([.mk V E,.mk C B])::s))from by simp[cD,zA,cJ,hb,bM,aD,aq,aae,aaf,aQ]];have H:=S (.mk 3 I W p xs) ek ([.mk V E]) hst VI;have O:=jt xs ([.mk V E],false) hst;simp only[cJ]at H;generalize cy xs ([.mk V E],false)=r1 at H O ⊢;obtain⟨⟨N,M⟩,e1⟩:=r1;simp only[aac,aad]at O;change aZ _ _ _ _ (iu (if(cR ((N,M),e1) (([.mk C B],false),0)).2≠0 then aM (cR ((N,M),e1) (([.mk C B],false),0)).2 else _));have hm:=gW ((N,M),e1) (([.mk C B],false),0) O.1 rE;generalize cR ((N,M),e1) (([.mk C B],false),0)=rm at hm ⊢;obtain⟨⟨tm,bm⟩,em⟩:=rm;simp only;by_cases K:em≠0
   ·rw[if_pos K,aA K];have en:(em != 0)=true:=by simpa using K
    refine qn func127 call127 λβ hf=>?_;exact dw
   ·obtain rfl:em=0:=by simpa using K
    rw[if_neg cc];have hp:=bA (s) [.mk 14 [.mk V E,.mk C B]];rw[aF]at hp;rw[aF];refine qn func127 call127 λβ hf=>?_;have G5:=dz 14 [.mk V E,.mk C B];exact dw
 ·obtain⟨rfl,rfl⟩:=cW hf rfl;clear hf;rcases s with _|⟨⟨T,us⟩,_|⟨⟨U,vs⟩,q⟩⟩
  ·have D:=ai ([]) [0,14];rw[show fN ([]) [0,14]=false from by(simp[bR,bS,aU])<;>assumption]at D;rw[show cD 67 ([]) (aX ([])) ([]) ([])=aM 5 from by simp[cD,bM,aD,aq,aae,aaf,aQ]];rw[aA cc];refine qn func127 call127 λβ hf=>?_;exact dw
  ·have D:=ai ([.mk T us]) [0,14];rw[show fN ([.mk T us]) [0,14]=false from by(simp[bR,bS,aU])<;>assumption]at D;rw[show cD 67 ([]) (aX ([])) ([]) ([.mk T us])=aM 5 from by simp[cD,bM,aD,aq,aae,aaf,aQ]];rw[aA cc];refine qn func127 call127 λβ hf=>?_;exact dw
  by_cases hU:U=14
  ·subst hU;obtain⟨⟨X,zs⟩,⟨Y,G⟩,rfl,hx,hy⟩:=eD (hs (.mk 14 vs) ek) rfl;have D:=ai (.mk T us :: .mk 14 [.mk X zs,.mk Y G]::q) [0,14];rw[show fN (.mk T us :: .mk 14 [.mk X zs,.mk Y G]::q) [0,14]=true from by(simp[bR,bS,aU])<;>assumption]at D;have h1:=gD (.mk T us) (.mk X zs) (by have:=(hs (.mk T us) ek).2;omega);cases g1:cP (.mk T us) (.mk X zs)
   ·rw[g1]at h1;rw[show cD 67 ([]) (aX ([])) ([]) (.mk T us :: .mk 14 [.mk X zs,.mk Y G]::q)=aM 5 from by simp[cD,bM,aD,aq,aae,aaf,aQ,g1]];rw[aA cc];refine qn func127 call127 λβ hf=>?_;exact dw
   ·rw[g1]at h1;have hp:=bA (q) [.mk Y G];rw[aF]at hp;rw[show cD 67 ([]) (aX ([])) ([]) (.mk T us :: .mk 14 [.mk X zs,.mk Y G]::q)=dX (.mk Y G::q)from by simp[cD,bM,aD,aq,aae,aaf,aQ,g1]];rw[aF];refine qn func127 call127 λβ hf=>?_;exact dw
  ·have D:=ai (.mk T us :: .mk U vs::q) [0,14];rw[show fN (.mk T us :: .mk U vs::q) [0,14]=false from by(simp[bR,bS,aU,hU])<;>assumption]at D;rw[show cD 67 ([]) (aX ([])) ([]) (.mk T us :: .mk U vs::q)=aM 5 from by simp[cD,bM,aD,aq,aae,aaf,aQ,hU]];rw[aA cc];refine qn func127 call127 λβ hf=>?_;exact dw
 ·obtain⟨I,W,p,xs,rfl,rfl⟩:=E7 hf rfl;clear hf;rcases s with _|⟨⟨T,us⟩,r⟩
  ·rw[show cD 68 ([.mk 3 I W p xs]) (aX ([.mk 3 I W p xs])) ([]) ([])=aM 5 from by simp[cD,bM,aD,aq,aae,aaf,aQ]];rw[aA cc];refine qn func127 call127 λβ hf=>?_;exact dw
  have D:=vH (au (.mk T us::r)) 0 Ao;have A:=(mY hs).2;have zr:=aR r;simp only[aac]at hl;rw[show cD 68 ([.mk 3 I W p xs]) (aX ([.mk 3 I W p xs])) ([]) (.mk T us::r)=(if(cy xs (r,false)).2≠0 then aM (cy xs (r,false)).2 else if(cy xs (r,false)).1.2=true then aM 1 else dX (.mk T us::(cy xs (r,false)).1.1))from by simp[cD,aX,bM,aD,aq,aae,aaf,aQ]];have H:=S (.mk 3 I W p xs) ek (r) A VI;have O:=jt xs (r,false) A;simp only[cJ]at H;generalize cy xs (r,false)=r1 at H O ⊢;obtain⟨⟨N,M⟩,e1⟩:=r1;simp only[aac,aad]at O;simp only;by_cases K:e1≠0
  ·rw[if_pos K,aA K];have en:(e1 != 0)=true:=by simpa using K
   refine qn func127 call127 λβ hf=>?_;have G6:=eB r bn;exact dw
  obtain rfl:e1=0:=by simpa using K
  rw[if_neg cc];cases M
  ·rw[if_neg cc];have hp:=bA (N) [.mk T us];rw[aF]at hp;rw[aF];refine qn func127 call127 λβ hf=>?_;have JW:=eB r bn;exact dw
  ·rw[if_pos Z,aA cc];refine qn func127 call127 λβ hf=>?_;have O9:=eB r bn;exact dw
end Go.Proofs
namespace Go.cM
def Al:∀(a b:L UInt8),Lib.compareBytes a b=ep a b
 |[],[]=>rfl
 |[],_::_=>rfl
 |_::_,[]=>rfl
 |x::a,y::b=>by
  have O:=Al a b;unfold ep at O ⊢;simp only[Lib.compareBytes,Op.bytesLess];by_cases h1:x<y
  ·simp[h1]
  ·grind
section
variable {P : Program}{X : Ctx}{ops : Array Oper}{o : Oper}{rest : L Oper}{env : Env}{acc : L Fp}{Q : Env -> St -> L Fp -> Prop}{σ : St}
def bP.LP {fn : Func} {f : FuncId} (hf : P.funcs[f]? = some fn) (hname : (fn.name == "runtime.NumGoroutine") = false) (hb : fn.body.isNone = true) (hn : Extern.findNext fn = none) (he : Extern.find fn = some Extern.BytealgCompare.compare)
  {args:Array Operand} {ts:Array TypeId} (ho:o.op = .call {callee := .value (.func f),args:=args,argTypes:=ts}) {x y:Operand} (hargs:args = #[x,y]) {a b:L UInt8} (hx:aJ X env x=some (.c (.str a))) (hy:aJ X env y=some (.c (.str b))) :
  bP P X o env σ (.c (.int .i64 (ep a b))) (λσ=>σ) ⟨[],[]⟩:=by
 subst hargs;refine bP.val λcT w g act h1 gL cu de=>?_;have hx':aJ X cT x=some (.c (.str a)):=by rw[h1 x P5];exact hx
 have hy':aJ X cT y=some (.c (.str b)):=by rw[h1 y P5];exact hy
 have rx:=cn (a:=act) de cu hx';have ry:=cn (a:=act) de cu hy';simp only[aI,Rel]at rx ry;refine⟨.int .i64 (ep a b),?_,by simp only[aI,Rel]⟩;have hrun:(callFunc f #[act.eval x,act.eval y]).run P w = .ok (.value (.int .i64 (ep a b))) w:=by
  rw[run_callFunc_extern hf hname hb hn he,rx,ry,Lib.run_compareString];simp only[Result.andThen];rw[<- Al]
 obtain⟨dst,op,type,pos,after,guard⟩:=o;simp only at ho;subst ho;simpa[execOp,resolve,Deferred.ofValue,invoke,Act.eval]using hrun
def ah.LP{fn:Func}{f:FuncId}(kn:L Nat)(hg:cS ops.toList kn env o=some true){args:Array Operand}{ts:Array TypeId}(ho:o.op = .call {callee := .value (.func f),args:=args,argTypes:=ts})(hf:P.funcs[f]?=some fn)
  (hname : (fn.name == "runtime.NumGoroutine") = false) (hb : fn.body.isNone = true) (hn : Extern.findNext fn = none) (he : Extern.find fn = some Extern.BytealgCompare.compare)
  {d:Nat}(hd:o.dst=some d){x y:Operand}(hargs:args = #[x,y]){a b:L UInt8}(hx:aJ X env x=some (.c (.str a)))(hy:aJ X env y=some (.c (.str b)))
  (k:ah P X ops rest ((d,.c (.int .i64 (ep a b)))::env) σ (⟨[],[]⟩::acc) Q):ah P X ops (o::rest) env σ acc Q :=
 ah.step (dg hg) (bP.LP hf hname hb hn he ho hargs hx hy) (gA.id _) vF
end
def RW(k n a:Int)(s:L UInt8)(J:L Vl)(Y:L Ty)(W:L Nd):kK (.mk k n a s J Y W)=1+s.length/8+iG J:=rfl
def LQ:iG []=0:=rfl
def JD(x:Vl)(l:L Vl):iG (x::l)=kK x+iG l:=rfl
mutual
def LR:∀t:Vl,kK t<=aO t
 |.mk k n a s J Y W=>by have:=uf J;simp only[kK,aO];omega
def uf:∀l:L Vl,iG l<=aK l
 |[]=>aav _
 |t::l=>by have:=LR t;have:=uf l;simp only[iG,aK];omega
end
end Go.cM
namespace Go.Proofs
open Go.cM
def fm{l:L Vl}{i:Nat}{x:Vl}(h:l[i]?=some x):(aa l)[i]?=some (bO x):=by rw[ja,h];rfl
def Bn{l:L Vl}{i:Nat}{x:Vl}(h:l[i]?=some x):decide (((i:Nat):Int)<(((aa l).length:Nat):Int))=true:=dec_lt (by have:=bQ h;rw[aB];omega)
def wV{l:L Vl}{i:Nat}(h:i=l.length):decide (((i:Nat):Int)<(((aa l).length:Nat):Int))=false:=E2 (by rw[aB];omega)
def VT{a b:Nat}(h:a+b<1099511627776):some (AV.c (CV.int .i64 (i64.wrap ((a:Int)+(b:Int)))))=some (AV.c (CV.int .i64 ((a+b:Nat):Int))):=by
 rw[gF bn bn];rfl
attribute [local irreducible] AK ah aZ cx kK iG
def AE(a b:L UInt8):aj 141 [.str a,.str b] (.int .i64 (ep a b)):=by
 refine qn func141 call141 λβ hf=>?_
 repeat' (first|refine pe ?_|refine ah.LP kn Z Z func169 (by kernel_rfl) (by kernel_rfl) (by kernel_rfl) (by kernel_rfl) Z Z Z Z ?_)
 all_goals rfl
def zw(a b:L UInt8):aj 112 [.str a,.str b] (.int .i64 (ep a b)):=by
 have h1:=AE a b;refine qn func112 call112 λβ hf=>?_;exact dq
def wI(a b:Int):aj 113 [.int .i64 a,.int .i64 b] (.int .i64 (sG a b)):=by
 unfold sG;by_cases h1:a<b
 ·have Y:decide (a<b)=true:=aaw h1;rw[if_pos h1];refine qn func113 call113 λβ hf=>?_;exact dq
 ·have Y:decide (a<b)=false:=aax h1;rw[if_neg h1];by_cases h2:a>b
  ·have C:decide (a>b)=true:=aaw h2;rw[if_pos h2];refine qn func113 call113 λβ hf=>?_;exact dq
  ·have C:decide (a>b)=false:=aax h2;rw[if_neg h2];refine qn func113 call113 λβ hf=>?_;exact dq
set_option maxHeartbeats 1000000 in
def DO(l:L Vl)(p:Vl->Bool)(f:FuncId)(caps:L CV)(hp:∀x∈l,aj f (bO x::caps) (.bool (p x)))(hlen:l.length<=1099511627776) :
  aj 98 [.sl 7 (aa l),.sH f caps] (.int .i64 (idxOf p l)):=by
 refine qn func98 call98 λβ hf=>?_;refine AK.JR hX mixed 300 Z ?_;refine AK.eX (α:=Nat) (λi=>i<=l.length/\∀(j:Nat) x,j<i->l[j]?=some x->p x=false) (λi=>l.length-i)
  (λi=>[(8,.c (.int .i64 i)),(7,.c (.int .i64 (aa l).length)),(0,.c (.sl 7 (aa l))),(1,.c (.sH f caps))]) (λ_=>[]) (λ_=>[]) [] 0
  ⟨bn,by intro j x h;omega⟩ ce trivial trivial Z Z Z ?_
 rintro i ⟨hi,hno⟩ ih
 repeat' (first|refine pe ?_|refine zc ?_ ?_|(intro h;first|(cases h;done)|rw[h]|skip))
 ·have hlt:i<l.length:=by simpa[aB]using h
  obtain⟨⟨a1,a2,a3,a4,a5,a6,a7⟩,hx⟩:∃x,l[i]?=some x:=⟨l[i],by simp[hlt]⟩
  refine ah.index hX Z Z Z Z Z Z Z Z Z Z i Z (by rw[ja,hx];rfl) Z ?_
  repeat' (first|refine pe ?_|refine zc ?_ ?_|(intro h;first|(cases h;done)|rw[h]|skip)|refine uC Z (hp ⟨a1,a2,a3,a4,a5,a6,a7⟩ (aaA hx)) ?_)
  ·rw[sS p l i ⟨a1,a2,a3,a4,a5,a6,a7⟩ hx h hno]
  ·have yu:=h
   have We:=ih (i+1) ⟨bn,λj x hj SI=>by
    by_cases hji:j=i
    ·subst hji;rw[hx]at SI;simp at SI;subst SI;exact yu
    ·exact hno j x bn SI⟩ bn
   refine AK.again We ⟨.inl ?_,.inl Z,.inl Z,.inl Z,trivial⟩ trivial trivial Z Z Z;rw[gF bn bn];rfl
 ·have hge:l.length<=i:=by simpa[aB]using h
  rw[vI p l λj y hy=>hno j y Ug hy]
def qA(l:L Vl)(p:Vl->Bool)(f:FuncId)(A:L CV)(q:∀x∈l,aj f (bO x::A) (.bool (p x)))(Y:l.length<=1099511627776) :
  aj 74 [.sl 7 (aa l),.sH f A] (.bool (l.any p)):=by
 refine qn func74 call74 λβ hf=>?_
 repeat' (first|refine pe ?_|refine uC Z (DO l p f A q Y) ?_)
 rw[yg]
def Cy:∀(t:Vl),aO t<=8589934593->aj 48 [bO t] (.int .i64 (kK t))
 |.mk k n a s J G W,M=>by
  have V:=uf J;simp only[aO]at M;have Q:=iN J;have E:∀x∈J,aj 48 [bO x] (.int .i64 (kK x)):=λx I=>Cy x Rg;have U:i64.wrap (1+i64.wrap (((s.length:Nat):Int).tdiv 8))=((1+s.length/8:Nat):Int):=by
   rw[show(8:Int)=((8:Nat):Int)from Z,<- Int.ofNat_tdiv,gF (n:=((s.length/8:Nat):Int)) bn bn,gF bn bn];omega
  rw[RW];refine qn func48 call48 λβ hf=>?_
  repeat' (first|refine pe ?_|refine zc ?_ ?_|(intro h;first|(cases h;done)|rw[h]|skip))
  refine AK.eX (α:=Nat×Nat) (λz=>z.1<=J.length/\1+s.length/8+iG J=z.2+iG (J.drop z.1)) (λz=>J.length-z.1)
   (λz=>[(14,.c (.int .i64 z.1)),(13,.c (.int .i64 (aa J).length)),(12,.c (.sl 7 (aa J))),(3,.c (.int .i64 z.2))]) (λ_=>[]) (λ_=>[]) [] (0,1+s.length/8)
   ⟨bn,by rw[abx]⟩ ⟨.inl Z,.inl Z,.inl Z,.inl (Zb (λz=>some (AV.c (CV.int .i64 z))) U),trivial⟩ trivial trivial Z Z Z ?_
  rintro⟨i,m⟩ ⟨K,Y⟩ ih;simp only at K Y;rcases gr J i K with ⟨x,I,T⟩|S
  ·have A:=Bn I;have hq:=E x T;rw[eG I,JD]at Y;have h2:=bQ I;generalize kK x=q at hq Y;obtain⟨P,O,D,N,H,C,B⟩:=x
   repeat' (first|refine pe ?_|refine zc ?_ ?_|(intro h;first|(cases h;done)|rw[h]|skip)|refine uI Z (i) Z (fm I) Z ?_|refine uC Z hq ?_)
   refine AK.again (ih (i+1,m+q) ⟨h2,by show 1+s.length/8+iG J=m+q+iG (J.drop (i+1));omega⟩ fk) ⟨.inl (iS bn),.inl Z,.inl Z,.inl (VT (a:=m) (b:=q) bn),trivial⟩ trivial trivial Z Z Z
  ·have A:=wV S;have p:1+s.length/8+iG J=m:=by rw[Y,S,Zx,LQ,aaL]
   clear ih
   repeat' (first|refine pe ?_|refine zc ?_ ?_|(intro h;first|(cases h;done)|rw[h]|skip))
   show(_:CV)=_;rw[p]
termination_by t=>SizeOf.sizeOf t
decreasing_by
 have:=Zp I;simp at this ⊢;omega
end Go.Proofs
namespace Go.Proofs
open Go.cM
def JE{k n a:Int}{s:L UInt8}{J:L Vl}{Y:L Ty}{W:L Nd}{t:Ty}(h:bE (.mk k n a s J Y W) t=true)(A:fV t=false) :
  k=bM t/\(k=9->J.length<=1/\∀x∈J,bE x (aD t 0)=true/\fV (aD t 0)=false)/\(k=11->J.length=2/\cV J (aq t)=true/\(aq t).length=2/\lX (aq t)=false) /\
   (k=12->0<=n/\n<=1/\J.length=1/\∀x∈J,bE x (aD t n.toNat)=true/\fV (aD t n.toNat)=false):=by
 obtain⟨h1,h2,K⟩:=nU h;have U:¬(k≠bM t\/cq (.mk k n a s J Y W)=false\/200<s.length):=by
  rintro(h|h|h)
  ·exact h h1
  ·rw[h2]at h;simp at h
  ·omega
 simp only[bE,if_neg U]at h;obtain⟨T,V⟩:=gT A;rw[<- h1]at T;refine⟨h1,?_,?_,?_⟩
 ·rintro rfl;simp at h;have B:(aq t).length=1:=by(have:arity 9=1:=by decide);omega
  refine⟨h.1.2,λx I=>⟨(eR _ _).1 h.2 x I,di V (j7 bn)⟩⟩
 ·rintro rfl;simp at h;have B:(aq t).length=2:=by(have:arity 11=2:=by decide);omega
  exact⟨h.1.2,h.2,B,V⟩
 ·rintro rfl;simp at h;have B:(aq t).length=2:=by(have:arity 12=2:=by decide);omega
  refine⟨h.1.1,h.1.2.1,h.1.2.2,λx I=>⟨(eR _ _).1 h.2 x I,di V (j7 bn)⟩⟩
def aai(n a:Int)(s:L UInt8)(J:L Vl)(G:L Ty)(E:L Nd)(k' V T:Int)(U:L UInt8)(M:L Vl)(Y:L Ty)(W:L Nd):dj (.mk 6 n a s J G E) (.mk k' V T U M Y W)=ep s U:=rfl
def aaj(n a:Int)(s:L UInt8)(J:L Vl)(G:L Ty)(E:L Nd)(k' V U:Int)(T:L UInt8)(M:L Vl)(Y:L Ty)(W:L Nd):dj (.mk 9 n a s J G E) (.mk k' V U T M Y W)=if sG J.length M.length=0 then iy J M else sG J.length M.length:=rfl
def X3(n a:Int)(s:L UInt8)(J:L Vl)(G:L Ty)(E:L Nd)(k' V U:Int)(T:L UInt8)(M:L Vl)(Y:L Ty)(W:L Nd):dj (.mk 11 n a s J G E) (.mk k' V U T M Y W)=iy J M:=rfl
def X4(n a:Int)(s:L UInt8)(J:L Vl)(G:L Ty)(E:L Nd)(k' V U:Int)(T:L UInt8)(M:L Vl)(Y:L Ty)(W:L Nd):dj (.mk 12 n a s J G E) (.mk k' V U T M Y W)=if sG n V=0 then iy J M else sG n V:=rfl
def aak{k:Int}(h1:k≠6)(h2:k≠9)(K:k≠11)(U:k≠12)(n a:Int)(s:L UInt8)(J:L Vl)(G:L Ty)(E:L Nd)(k' V T:Int)(S:L UInt8)(M:L Vl)(Y:L Ty)(W:L Nd):dj (.mk k n a s J G E) (.mk k' V T S M Y W)=sG n V:=by
 simp only[dj,if_neg h1,if_neg h2,if_neg K,if_neg U]
def EZ(x:Vl)(l:L Vl)(y:Vl)(r:L Vl):iy (x::l) (y::r)=if dj x y=0 then iy l r else dj x y:=rfl
def JF(r:L Vl):iy [] r=0:=by cases r<;>rfl
attribute [local irreducible] AK ah aZ cx dj iy bE aP cV Nm GK cP gG Bo xV sG ep cq
def qm(n:Int):aj 93 [.int .i64 n] (.bool (decide (0<=n)&&decide (n<12))):=by
 refine qn func93 call93 λβ hf=>?_
 repeat' (first|refine pe ?_|refine zc ?_ ?_|(intro h;first|(cases h;done)|rw[h]|skip))
 all_goals
  show(_:CV)=_;clear hf;simp_all
def JG(k n a:Int)(s:L UInt8)(J:L Vl)(Y:L Ty)(W:L Nd):cq (.mk k n a s J Y W)=(if k=15 then decide (Y.length=0/\W.length=0/\s=[])
  else if k=8 then decide (Y.length=1/\W.length=0/\s=[])
  else if k=14 then decide (Y.length=2/\a=0/\n=0/\s=[]/\J.length=0)
  else if k=6 then decide (Y.length=0/\W.length=0/\a=0/\n=0/\J.length=0)
  else decide (Y.length=0/\W.length=0/\a=0/\s=[])):=by simp only[cq]
def JH(v:Vl):aj 91 [bO v] (.bool (cq v)):=by
 obtain⟨k,n,a,s,J,Y,W⟩:=v;rw[JG];by_cases V:k=15
 ·subst V;refine qn func91 call91 λβ hf=>?_
  repeat' (first|refine pe ?_|refine zc ?_ ?_|(intro h;first|(cases h;done)|rw[h]|skip))
  all_goals
   show(_:CV)=_;clear hf;simp only[aR,bq,aB,abO,abE]at *;rcases Y with _|⟨_,_|⟨_,_|⟨_,_⟩⟩⟩<;>simp_all<;>(try omega)<;>rcases s with _|⟨_,_⟩<;>rcases J with _|⟨_,_⟩<;>rcases W with _|⟨_,_⟩<;>simp_all<;>omega
 have I:(k==15)=false:=by simpa using V
 by_cases C:k=8
 ·subst C;refine qn func91 call91 λβ hf=>?_
  repeat' (first|refine pe ?_|refine zc ?_ ?_|(intro h;first|(cases h;done)|rw[h]|skip))
  all_goals
   show(_:CV)=_;clear hf;simp only[aR,bq,aB,abO,abE]at *;rcases Y with _|⟨_,_|⟨_,_|⟨_,_⟩⟩⟩<;>simp_all<;>(try omega)<;>rcases s with _|⟨_,_⟩<;>rcases J with _|⟨_,_⟩<;>rcases W with _|⟨_,_⟩<;>simp_all<;>omega
 have Q:(k==8)=false:=by simpa using C
 by_cases K:k=14
 ·subst K;refine qn func91 call91 λβ hf=>?_
  repeat' (first|refine pe ?_|refine zc ?_ ?_|(intro h;first|(cases h;done)|rw[h]|skip))
  all_goals
   show(_:CV)=_;clear hf;simp only[aR,bq,aB,abO,abE]at *;rcases Y with _|⟨_,_|⟨_,_|⟨_,_⟩⟩⟩<;>simp_all<;>(try omega)<;>rcases s with _|⟨_,_⟩<;>rcases J with _|⟨_,_⟩<;>rcases W with _|⟨_,_⟩<;>simp_all<;>omega
 have U:(k==14)=false:=by simpa using K
 by_cases c4:k=6
 ·subst c4;refine qn func91 call91 λβ hf=>?_
  repeat' (first|refine pe ?_|refine zc ?_ ?_|(intro h;first|(cases h;done)|rw[h]|skip))
  all_goals
   show(_:CV)=_;clear hf;simp only[aR,bq,aB,abO,abE]at *;rcases Y with _|⟨_,_|⟨_,_|⟨_,_⟩⟩⟩<;>simp_all<;>(try omega)<;>rcases s with _|⟨_,_⟩<;>rcases J with _|⟨_,_⟩<;>rcases W with _|⟨_,_⟩<;>simp_all<;>omega
 have p:(k==6)=false:=by simpa using c4
 refine qn func91 call91 λβ hf=>?_
 repeat' (first|refine pe ?_|refine zc ?_ ?_|(intro h;first|(cases h;done)|rw[h]|skip))
 all_goals
  show(_:CV)=_;clear hf;simp only[aR,bq,aB,abO,abE]at *;rcases Y with _|⟨_,_|⟨_,_|⟨_,_⟩⟩⟩<;>simp_all<;>(try omega)<;>rcases s with _|⟨_,_⟩<;>rcases J with _|⟨_,_⟩<;>rcases W with _|⟨_,_⟩<;>simp_all<;>omega
def LS{l:L Vl}(h:l.length=1):∃x,l=[x]:=by
 match l,h with
 |[x],_=>exact⟨x,Z⟩
def TF{l:L Vl}(h:l.length=2):∃x y,l=[x,y]:=by
 match l,h with
 |[x,y],_=>exact⟨x,y,Z⟩
def zF{l:L Ty}(h:l.length=2):∃x y,l=[x,y]:=by
 match l,h with
 |[x,y],_=>exact⟨x,y,Z⟩
def GN(x y:Vl):iy [x] [y]=dj x y:=by rw[EZ,JF];split<;>simp_all
def TG(x J y Y:Vl):iy [x,J] [y,Y]=if dj x y=0 then dj J Y else dj x y:=by rw[EZ,GN]
def mW:∀(v w:Vl)(t:Ty),fV t=false->bE v t=true->bE w t=true->aO v<=1099511627776->aj 95 [bO v,bO w] (.int .i64 (dj v w))
 |.mk k n a s J types code,.mk k' P a' s' M O code',t,hb,hv,hw,hsz=>by
  simp only[aO]at hsz;obtain⟨p0,p9,T8,p12⟩:=JE hv hb;obtain⟨q0,q9,Q,q12⟩:=JE hw hb;obtain rfl:k'=k:=by rw[p0,q0]
  clear hv hw;have E:∀x∈J,∀y u,fV u=false->bE x u=true->bE y u=true->aj 95 [bO x,bO y] (.int .i64 (dj x y)):=λx I y u h1 h2 h3=>mW x y u h1 h2 h3 Rg;by_cases c1:k'=6
  ·subst c1;rw[aai];have h1:=zw s s';refine qn func95 call95 λβ hf=>?_;exact dq
  by_cases c2:k'=9
  ·subst c2;rw[aaj];have h1:=wI (((aa J).length:Nat):Int) (((aa M).length:Nat):Int);by_cases Y:sG J.length M.length=0
   ·rw[if_pos Y];rw[aB,aB,Y,<- aB,<- aB M]at h1;have wK:=mb.1 Y;by_cases K:J.length=0
    ·have e5:((((aa J).length:Nat):Int)==0)=true:=by rw[aB];simpa using K
     rw[List.length_eq_zero_iff.1 K,JF];rw[List.length_eq_zero_iff.1 K]at h1 e5;refine qn func95 call95 λβ hf=>?_;exact dq
    ·have e5:((((aa J).length:Nat):Int)==0)=false:=by rw[aB];simpa using K
     obtain⟨x,T⟩:=LS (show J.length=1 by have:=(p9 rfl).1;omega);obtain⟨y,H⟩:=LS (show M.length=1 by have:=(q9 rfl).1;omega);have I:=(p9 Z).2 x XA;have N:=(q9 Z).2 y (by rw[H];simp);have h2:=E x XA y (aD t 0) I.2 I.1 N.1;have g1:J[0]?=some x:=by rw[T];rfl
     have W:M[0]?=some y:=by rw[H];rfl
     have V:iy J M=dj x y:=by rw[T,H,GN]
     rw[V];obtain⟨G,D,C,A,q,p,x7⟩:=x;obtain⟨y1,y2,y3,y4,y5,y6,y7⟩:=y;refine qn func95 call95 λβ hf=>?_;have sQ:=fm g1;have Bf:=fm W;exact dq
   ·rw[if_neg Y];have e1:(sG J.length M.length != 0)=true:=by simpa using Y
    rw[<- aB,<- aB M]at e1 ⊢;refine qn func95 call95 λβ hf=>?_;exact dq
  by_cases c3:k'=11
  ·subst c3;rw[X3];obtain⟨m1,B,m3,U⟩:=T8 rfl;obtain⟨r1,S,_,_⟩:=Q rfl;obtain⟨x,x',T⟩:=TF m1;obtain⟨y,y',H⟩:=TF r1;obtain⟨u,u',hU⟩:=zF m3;rw[T,hU]at B;rw[H,hU]at S;rw[hU]at U;simp only[cV,aal]at B S;simp only[lX,aaT]at U;have h1:=E x XA y u U.1 B.1 S.1;have h2:=E x' XA y' u' U.2.1 B.2.1 S.2.1;have g1:J[0]?=some x:=by rw[T];rfl
   have W:M[0]?=some y:=by rw[H];rfl
   have g3:J[1]?=some x':=by rw[T];rfl
   have g4:M[1]?=some y':=by rw[H];rfl
   have V:iy J M=if dj x y=0 then dj x' y' else dj x y:=by rw[T,H,TG]
   rw[V];clear B S V T H T8 Q;obtain⟨G,D,C,A,q,p,x7⟩:=x;obtain⟨y1,y2,y3,y4,y5,y6,y7⟩:=y;obtain⟨z1,z2,z3,z4,z5,z6,z7⟩:=x';obtain⟨w1,w2,w3,w4,w5,w6,w7⟩:=y';by_cases Y:dj (.mk G D C A q p x7) (.mk y1 y2 y3 y4 y5 y6 y7)=0
   ·rw[if_pos Y];rw[Y]at h1;refine qn func95 call95 λβ hf=>?_;have E4:=fm g1;have G5:=fm W;have G6:=fm g3;have JW:=fm g4;exact dq
   ·rw[if_neg Y];have e1:(dj (.mk G D C A q p x7) (.mk y1 y2 y3 y4 y5 y6 y7) != 0)=true:=by simpa using Y
    refine qn func95 call95 λβ hf=>?_;have O9:=fm g1;have Sg:=fm W;have Wh:=fm g3;have TM:=fm g4;exact dq
  by_cases c4:k'=12
  ·subst c4;rw[X4];have h1:=wI n P;obtain⟨m1,B,m3,U⟩:=p12 rfl;obtain⟨r1,S,r3,r4⟩:=q12 rfl;obtain⟨x,T⟩:=LS m3;obtain⟨y,H⟩:=LS r3;by_cases Y:sG n P=0
   ·rw[if_pos Y];rw[Y]at h1;have hnn:=mb.1 Y;have I:=U x XA;have N:=r4 y (by rw[H];simp);rw[<- hnn]at N;have h2:=E x XA y (aD t n.toNat) I.2 I.1 N.1;have g1:J[0]?=some x:=by rw[T];rfl
    have W:M[0]?=some y:=by rw[H];rfl
    have V:iy J M=dj x y:=by rw[T,H,GN]
    rw[V];obtain⟨G,D,C,A,q,p,x7⟩:=x;obtain⟨y1,y2,y3,y4,y5,y6,y7⟩:=y;refine qn func95 call95 λβ hf=>?_;have TN:=fm g1;have TO:=fm W;exact dq
   ·rw[if_neg Y];have e1:(sG n P != 0)=true:=by simpa using Y
    refine qn func95 call95 λβ hf=>?_;exact dq
  rw[aak c1 c2 c3 c4];have e1:(k'==6)=false:=by simpa using c1
  have e2:(k'==9)=false:=by simpa using c2
  have V:(k'==11)=false:=by simpa using c3
  have e4:(k'==12)=false:=by simpa using c4
  have h1:=wI n P;refine qn func95 call95 λβ hf=>?_;exact dq
termination_by v=>SizeOf.sizeOf v
decreasing_by
 have:=Zp I;simp at this ⊢;omega
end Go.Proofs
