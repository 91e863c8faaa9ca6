/- What control of package check answers. -/
import Derived.Test.YteanleefnjknoaaGreatDoorChk3
import Derived.Test.YteanleefnjknoaaGreatDoorVPar
import Derived.Laws.Externs
import Derived.Lib.Bytealg
import Derived.Test.YteanleefnjknoaaGreatDoorTPure
import Derived.Test.YteanleefnjknoaaGreatDoorCtx
open Go.IntKind
open Go.Proofs.Tryz
set_option linter.defProp false
set_option maxHeartbeats 0
set_option linter.unusedVariables false
set_option linter.unusedSimpArgs false
set_option maxRecDepth 100000
namespace Go.Proofs
open Go.cK
attribute [local irreducible] AK af bg cn aP fY mH gW iT bB cE fD bf jN gD
def EY(P nN:Int)(nS:L UInt8)(J:L Nd)(B s:L Ty)(hP:64<=P/\P<=68)(hf:bW P J=some B)(hs:rJ s)(hl:s.length<=9999999990)(hsz:aU J<=8589934593)
  (I:∀a∈J,∀s':L Ty,rJ s'->s'.length<=s.length+1->ah 23 [.sl 5 (aH (cI a)),.sl 2 (aA s')] (vr (cE (cI a) (s',false)))) :
  ah 74 [aW (.mk 2 nN P nS J),.sl 2 (aA B),.sl 2 (aA s)] (jF (cM P J (bf J) B s)):=by
 have SQ:P=64\/P=65\/P=66\/P=67\/P=68:=by omega
 clear hP;rcases SQ with rfl|rfl|rfl|rfl|rfl
 ·obtain⟨W,S,C,xs,n2,p2,S2,Q,rfl,rfl⟩:=Ao hf rfl;clear hf;rcases s with _|⟨⟨T,us⟩,r⟩
  ·have D:=aq ([]) [2];rw[show gR ([]) [2]=false from by(simp[bZ,b8,aY])<;>assumption]at D;rw[show cM 64 ([.mk 3 W S C xs,.mk 3 n2 p2 S2 Q]) (bf ([.mk 3 W S C xs,.mk 3 n2 p2 S2 Q])) ([]) ([])=aR 5 from by simp[cM,bS,aE,au,aaf,aag,aV]];rw[aD bT];refine qn func74 call74 λβ hf=>?_;exact dw
  by_cases hT:T=2
  ·subst hT;simp only[aac]at hl;have zr:=aZ r;have E:=(oX hs).2;have D:=aq (.mk 2 us::r) [2];rw[show gR (.mk 2 us::r) [2]=true from by(simp[bZ,b8,aY])<;>assumption]at D;have M:=I (.mk 3 W S C xs) cS (r) E dG;have H:=kY xs (r,false) E;have w2:=I (.mk 3 n2 p2 S2 Q) cS (r) E dG;have o2:=kY Q (r,false) E;rw[show cM 64 ([.mk 3 W S C xs,.mk 3 n2 p2 S2 Q]) (bf ([.mk 3 W S C xs,.mk 3 n2 p2 S2 Q])) ([]) (.mk 2 us::r)=di (cE xs (r,false)) (cE Q (r,false))from by simp[cM,bS,aE,au,aaf,aag,aV,bf]];simp only[cI]at M;generalize cE xs (r,false)=r1 at M H ⊢;obtain⟨⟨O,A⟩,e1⟩:=r1;simp only[aac]at H;simp only[cI]at w2;generalize cE Q (r,false)=r2 at w2 o2 ⊢;obtain⟨⟨t2,b2⟩,e2⟩:=r2;simp only[aac]at o2;have hm:=jn ((O,A),e1) ((t2,b2),e2) H.1 rj;generalize di ((O,A),e1) ((t2,b2),e2)=rm at hm ⊢;obtain⟨⟨tm,bm⟩,em⟩:=rm;refine qn func74 call74 λβ hf=>?_;have vV:=fu r bn;exact dw
  ·have D:=aq (.mk T us::r) [2];rw[show gR (.mk T us::r) [2]=false from by(simp[bZ,b8,aY,hT])<;>assumption]at D;rw[show cM 64 ([.mk 3 W S C xs,.mk 3 n2 p2 S2 Q]) (bf ([.mk 3 W S C xs,.mk 3 n2 p2 S2 Q])) ([]) (.mk T us::r)=aR 5 from by simp[cM,bS,aE,au,aaf,aag,aV,hT]];rw[aD bT];refine qn func74 call74 λβ hf=>?_;exact dw
 ·obtain⟨W,S,C,xs,rfl,rfl⟩:=Jl hf rfl;clear hf;rcases s with _|⟨⟨T,us⟩,r⟩
  ·have D:=aq ([]) [2];rw[show gR ([]) [2]=false from by(simp[bZ,b8,aY])<;>assumption]at D;rw[show cM 65 ([.mk 3 W S C xs]) (bf ([.mk 3 W S C xs])) ([]) ([])=aR 5 from by simp[cM,bS,aE,au,aaf,aag,aV]];rw[aD bT];refine qn func74 call74 λβ hf=>?_;exact dw
  by_cases hT:T=2
  ·subst hT;simp only[aac]at hl;have zr:=aZ r;have E:=(oX hs).2;have D:=aq (.mk 2 us::r) [2];rw[show gR (.mk 2 us::r) [2]=true from by(simp[bZ,b8,aY])<;>assumption]at D;rw[show cM 65 ([.mk 3 W S C xs]) (bf ([.mk 3 W S C xs])) ([]) (.mk 2 us::r)=(if(di (cE xs (r,false)) (eT (.mk 2 us::r))).2≠0 then aR (di (cE xs (r,false)) (eT (.mk 2 us::r))).2 else eT r)from by simp[cM,bf,bS,aE,au,aaf,aag,aV]];have M:=I (.mk 3 W S C xs) cS (r) E acj;have H:=kY xs (r,false) E;simp only[cI]at M;generalize cE xs (r,false)=r1 at M H ⊢;obtain⟨⟨O,A⟩,e1⟩:=r1;simp only[aac,aad]at H;change bg _ _ _ _ (jF (if(di ((O,A),e1) ((.mk 2 us::r,false),0)).2≠0 then aR (di ((O,A),e1) ((.mk 2 us::r,false),0)).2 else _));have hm:=jn ((O,A),e1) ((.mk 2 us::r,false),0) H.1 rj;generalize di ((O,A),e1) ((.mk 2 us::r,false),0)=rm at hm ⊢;obtain⟨⟨tm,bm⟩,em⟩:=rm;simp only;by_cases N:em≠0
   ·rw[if_pos N,aD N];have en:(em != 0)=true:=by simpa using N
    refine qn func74 call74 λβ hf=>?_;have Ep:=fu r bn;exact dw
   ·obtain rfl:em=0:=by simpa using N
    rw[if_neg bT];have hp:=ke (r);rw[aI]at hp;rw[aI];refine qn func74 call74 λβ hf=>?_;have Ji:=fu r bn;exact dw
  ·have D:=aq (.mk T us::r) [2];rw[show gR (.mk T us::r) [2]=false from by(simp[bZ,b8,aY,hT])<;>assumption]at D;rw[show cM 65 ([.mk 3 W S C xs]) (bf ([.mk 3 W S C xs])) ([]) (.mk T us::r)=aR 5 from by simp[cM,bS,aE,au,aaf,aag,aV,hT]];rw[aD bT];refine qn func74 call74 λβ hf=>?_;exact dw
 ·obtain⟨x0,y0,W,S,C,xs,t,u,rfl,rfl,ht,hu⟩:=HI hf rfl;clear hf;have ZU:=ht.2;obtain⟨V,p⟩:=t;have X9:=hu.2;obtain⟨K,G⟩:=u;have hmi:=vX xs (by simp only[aU,bM]at hsz;omega);have zs:=aZ s;cases hb:jN xs;rotate_left
  ·rw[hb]at hmi;rw[show cM 66 ([x0,y0,.mk 3 W S C xs]) (bf ([x0,y0,.mk 3 W S C xs])) ([.mk V p,.mk K G]) s=aR 5 from by simp[cM,cI,hb],aD bT];refine qn func74 call74 λβ hf=>?_;exact dw
  ·rw[hb]at hmi;have hst:rJ [Ty.mk V p]:=lU ht Rc;rw[show cM 66 ([x0,y0,.mk 3 W S C xs]) (bf ([x0,y0,.mk 3 W S C xs])) ([.mk V p,.mk K G]) s=(if(di (cE xs ([.mk V p],false)) (eT [.mk K G])).2≠0 then aR (di (cE xs ([.mk V p],false)) (eT [.mk K G])).2 else eT (.mk 14 ([.mk V p,.mk K G])::s))from by simp[cM,CA,cI,hb,bS,aE,au,aaf,aag,aV]];have M:=I (.mk 3 W S C xs) cS ([.mk V p]) hst acj;have H:=kY xs ([.mk V p],false) hst;simp only[cI]at M;generalize cE xs ([.mk V p],false)=r1 at M H ⊢;obtain⟨⟨O,A⟩,e1⟩:=r1;simp only[aac,aad]at H;change bg _ _ _ _ (jF (if(di ((O,A),e1) (([.mk K G],false),0)).2≠0 then aR (di ((O,A),e1) (([.mk K G],false),0)).2 else _));have hm:=jn ((O,A),e1) (([.mk K G],false),0) H.1 rj;generalize di ((O,A),e1) (([.mk K G],false),0)=rm at hm ⊢;obtain⟨⟨tm,bm⟩,em⟩:=rm;simp only;by_cases N:em≠0
   ·rw[if_pos N,aD N];have en:(em != 0)=true:=by simpa using N
    refine qn func74 call74 λβ hf=>?_;exact dw
   ·obtain rfl:em=0:=by simpa using N
    rw[if_neg bT];have hp:=bE (s) [.mk 14 [.mk V p,.mk K G]];rw[aI]at hp;rw[aI];refine qn func74 call74 λβ hf=>?_;have Lr:=dM 14 [.mk V p,.mk K G];exact dw
 ·obtain⟨rfl,rfl⟩:=dN hf rfl;clear hf;rcases s with _|⟨⟨T,us⟩,_|⟨⟨U,vs⟩,q⟩⟩
  ·have D:=aq ([]) [0,14];rw[show gR ([]) [0,14]=false from by(simp[bZ,b8,aY])<;>assumption]at D;rw[show cM 67 ([]) (bf ([])) ([]) ([])=aR 5 from by simp[cM,bS,aE,au,aaf,aag,aV]];rw[aD bT];refine qn func74 call74 λβ hf=>?_;exact dw
  ·have D:=aq ([.mk T us]) [0,14];rw[show gR ([.mk T us]) [0,14]=false from by(simp[bZ,b8,aY])<;>assumption]at D;rw[show cM 67 ([]) (bf ([])) ([]) ([.mk T us])=aR 5 from by simp[cM,bS,aE,au,aaf,aag,aV]];rw[aD bT];refine qn func74 call74 λβ hf=>?_;exact dw
  by_cases hU:U=14
  ·subst hU;obtain⟨⟨X,zs⟩,⟨Y,Q⟩,rfl,hx,hy⟩:=fz (hs (.mk 14 vs) cS) rfl;have D:=aq (.mk T us :: .mk 14 [.mk X zs,.mk Y Q]::q) [0,14];rw[show gR (.mk T us :: .mk 14 [.mk X zs,.mk Y Q]::q) [0,14]=true from by(simp[bZ,b8,aY])<;>assumption]at D;have h1:=gU (.mk T us) (.mk X zs) (by have:=(hs (.mk T us) cS).2;omega);cases g1:dh (.mk T us) (.mk X zs)
   ·rw[g1]at h1;rw[show cM 67 ([]) (bf ([])) ([]) (.mk T us :: .mk 14 [.mk X zs,.mk Y Q]::q)=aR 5 from by simp[cM,bS,aE,au,aaf,aag,aV,g1]];rw[aD bT];refine qn func74 call74 λβ hf=>?_;exact dw
   ·rw[g1]at h1;have hp:=bE (q) [.mk Y Q];rw[aI]at hp;rw[show cM 67 ([]) (bf ([])) ([]) (.mk T us :: .mk 14 [.mk X zs,.mk Y Q]::q)=eT (.mk Y Q::q)from by simp[cM,bS,aE,au,aaf,aag,aV,g1]];rw[aI];refine qn func74 call74 λβ hf=>?_;exact dw
  ·have D:=aq (.mk T us :: .mk U vs::q) [0,14];rw[show gR (.mk T us :: .mk U vs::q) [0,14]=false from by(simp[bZ,b8,aY,hU])<;>assumption]at D;rw[show cM 67 ([]) (bf ([])) ([]) (.mk T us :: .mk U vs::q)=aR 5 from by simp[cM,bS,aE,au,aaf,aag,aV,hU]];rw[aD bT];refine qn func74 call74 λβ hf=>?_;exact dw
 ·obtain⟨W,S,C,xs,rfl,rfl⟩:=Jl hf rfl;clear hf;rcases s with _|⟨⟨T,us⟩,r⟩
  ·rw[show cM 68 ([.mk 3 W S C xs]) (bf ([.mk 3 W S C xs])) ([]) ([])=aR 5 from by simp[cM,bS,aE,au,aaf,aag,aV]];rw[aD bT];refine qn func74 call74 λβ hf=>?_;exact dw
  have D:=zd (aA (.mk T us::r)) 0 CK;have E:=(oX hs).2;have zr:=aZ r;simp only[aac]at hl;rw[show cM 68 ([.mk 3 W S C xs]) (bf ([.mk 3 W S C xs])) ([]) (.mk T us::r)=(if(cE xs (r,false)).2≠0 then aR (cE xs (r,false)).2 else if(cE xs (r,false)).1.2=true then aR 1 else eT (.mk T us::(cE xs (r,false)).1.1))from by simp[cM,bf,bS,aE,au,aaf,aag,aV]];have M:=I (.mk 3 W S C xs) cS (r) E acj;have H:=kY xs (r,false) E;simp only[cI]at M;generalize cE xs (r,false)=r1 at M H ⊢;obtain⟨⟨O,A⟩,e1⟩:=r1;simp only[aac,aad]at H;simp only;by_cases N:e1≠0
  ·rw[if_pos N,aD N];have en:(e1 != 0)=true:=by simpa using N
   refine qn func74 call74 λβ hf=>?_;have Ls:=fu r bn;exact dw
  obtain rfl:e1=0:=by simpa using N
  rw[if_neg bT];cases A
  ·rw[if_neg bT];have hp:=bE (O) [.mk T us];rw[aI]at hp;rw[aI];refine qn func74 call74 λβ hf=>?_;have OT:=fu r bn;exact dw
  ·rw[if_pos Z,aD bT];refine qn func74 call74 λβ hf=>?_;have US:=fu r bn;exact dw
end Go.Proofs
namespace Go.cK
def Dl:∀(a b:L UInt8),Lib.compareBytes a b=fh a b
 |[],[]=>rfl
 |[],_::_=>rfl
 |_::_,[]=>rfl
 |x::a,y::b=>by
  have Y:=Dl a b;unfold fh at Y ⊢;simp only[Lib.compareBytes,Op.bytesLess];by_cases h1:x<y
  ·simp[h1]
  ·grind
section
variable {P : Program}{X : Ctx}{ops : Array Oper}{o : Oper}{rest : L Oper}{env : Env}{acc : L Fp}{Q : Env -> St -> L Fp -> Prop}{σ : St}
def bU.Q3 {fn : Func} {f : FuncId} (hf : P.funcs[f]? = some fn) (hname : (fn.name == "runtime.NumGoroutine") = false) (hb : fn.body.isNone = true) (hn : Extern.findNext fn = none) (he : Extern.find fn = some Extern.BytealgCompare.compare)
  {args:Array Operand} {ts:Array TypeId} (ho:o.op = .call {callee := .value (.func f),args:=args,argTypes:=ts}) {x y:Operand} (hargs:args = #[x,y]) {a b:L UInt8} (hx:aK X env x=some (.c (.str a))) (hy:aK X env y=some (.c (.str b))) :
  bU P X o env σ (.c (.int .i64 (fh a b))) (λσ=>σ) ⟨[],[]⟩:=by
 subst hargs;refine bU.val λdz w g act h1 iW cA dH=>?_;have hx':aK X dz x=some (.c (.str a)):=by rw[h1 x Wl];exact hx
 have hy':aK X dz y=some (.c (.str b)):=by rw[h1 y Wl];exact hy
 have rx:=cy (a:=act) dH cA hx';have ry:=cy (a:=act) dH cA hy';simp only[aL,Rel]at rx ry;refine⟨.int .i64 (fh a b),?_,by simp only[aL,Rel]⟩;have hrun:(callFunc f #[act.eval x,act.eval y]).run P w = .ok (.value (.int .i64 (fh a b))) w:=by
  rw[run_callFunc_extern hf hname hb hn he,rx,ry,Lib.run_compareString];simp only[Result.andThen];rw[<- Dl]
 obtain⟨dst,op,type,pos,after,guard⟩:=o;simp only at ho;subst ho;simpa[execOp,resolve,Deferred.ofValue,invoke,Act.eval]using hrun
def af.Q3{fn:Func}{f:FuncId}(kn:L Nat)(hg:dj ops.toList kn env o=some true){args:Array Operand}{ts:Array TypeId}(ho:o.op = .call {callee := .value (.func f),args:=args,argTypes:=ts})(hf:P.funcs[f]?=some fn)
  (hname : (fn.name == "runtime.NumGoroutine") = false) (hb : fn.body.isNone = true) (hn : Extern.findNext fn = none) (he : Extern.find fn = some Extern.BytealgCompare.compare)
  {d:Nat}(hd:o.dst=some d){x y:Operand}(hargs:args = #[x,y]){a b:L UInt8}(hx:aK X env x=some (.c (.str a)))(hy:aK X env y=some (.c (.str b)))
  (k:af P X ops rest ((d,.c (.int .i64 (fh a b)))::env) σ (⟨[],[]⟩::acc) Q):af P X ops (o::rest) env σ acc Q :=
 af.step (dB hg) (bU.Q3 hf hname hb hn he ho hargs hx hy) (iA.id _) Ai
end
def XO(k n a:Int)(s:L UInt8)(J:L Vl)(B:L Ty)(code:L Nd):gQ (.mk k n a s J B code)=1+s.length/8+iP J:=rfl
def Q4:iP []=0:=rfl
def OA(x:Vl)(l:L Vl):iP (x::l)=gQ x+iP l:=rfl
mutual
def Q5:∀t:Vl,gQ t<=aM t
 |.mk k n a s J B code=>by have:=xJ J;simp only[gQ,aM];omega
def xJ:∀l:L Vl,iP l<=aO l
 |[]=>aaj _
 |t::l=>by have:=Q5 t;have:=xJ l;simp only[iP,aO];omega
end
end Go.cK
namespace Go.Proofs
open Go.cK
def fA{l:L Vl}{i:Nat}{x:Vl}(h:l[i]?=some x):(aa l)[i]?=some (bH x):=by rw[kK,h];rfl
def wv{l:L Vl}{i:Nat}{x:Vl}(h:l[i]?=some x):decide (((i:Nat):Int)<(((aa l).length:Nat):Int))=true:=dec_lt (by have:=bD h;rw[aG];omega)
def rV{l:L Vl}{i:Nat}(h:i=l.length):decide (((i:Nat):Int)<(((aa l).length:Nat):Int))=false:=Jf (by rw[aG];omega)
def ab6{a b:Nat}(h:a+b<1099511627776):some (AV.c (CV.int .i64 (i64.wrap ((a:Int)+(b:Int)))))=some (AV.c (CV.int .i64 ((a+b:Nat):Int))):=by
 rw[iy bn bn];rfl
def OB:∀(l r:L Vl),rM vA l r=xG l r
 |[],[]=>rfl
 |[],_::_=>rfl
 |_::_,[]=>rfl
 |x::l,y::r=>by simp[rM,xG,OB l r]
attribute [local irreducible] AK af bg cn gQ iP
def DK(a b:L UInt8):ah 145 [.str a,.str b] (.int .i64 (fh a b)):=by
 refine qn func145 call145 λβ hf=>?_
 repeat' (first|refine pJ ?_|refine af.Q3 kn Z Z func158 (by kernel_rfl) (by kernel_rfl) (by kernel_rfl) (by kernel_rfl) Z Z Z Z ?_)
 all_goals rfl
def Cx(a b:L UInt8):ah 115 [.str a,.str b] (.int .i64 (fh a b)):=by
 have h1:=DK a b;refine qn func115 call115 λβ hf=>?_;exact dq
def Ad(a b:Int):ah 116 [.int .i64 a,.int .i64 b] (.int .i64 (vG a b)):=by
 unfold vG;by_cases h1:a<b
 ·have u:decide (a<b)=true:=aak h1;rw[if_pos h1];refine qn func116 call116 λβ hf=>?_;exact dq
 ·have u:decide (a<b)=false:=aap h1;rw[if_neg h1];by_cases h2:a>b
  ·have H:decide (a>b)=true:=aak h2;rw[if_pos h2];refine qn func116 call116 λβ hf=>?_;exact dq
  ·have H:decide (a>b)=false:=aap h2;rw[if_neg h2];refine qn func116 call116 λβ hf=>?_;exact dq
set_option maxHeartbeats 1000000 in
def HC(l:L Vl)(p:Vl->Bool)(f:FuncId)(caps:L CV)(hp:∀x∈l,ah f (bH x::caps) (.bool (p x)))(hlen:l.length<=1099511627776) :
  ah 87 [.sl 7 (aa l),.rR f caps] (.int .i64 (idxOf p l)):=by
 refine qn func87 call87 λβ hf=>?_;refine AK.OO hX mixed 300 Z ?_;refine AK.eL (α:=Nat) (λi=>i<=l.length/\∀(j:Nat) x,j<i->l[j]?=some x->p x=false) (λi=>l.length-i)
  (λi=>[(8,.c (.int .i64 i)),(7,.c (.int .i64 (aa l).length)),(0,.c (.sl 7 (aa l))),(1,.c (.rR f caps))]) (λ_=>[]) (λ_=>[]) [] 0
  ⟨bn,by intro j x h;omega⟩ ce trivial trivial Z Z Z ?_
 rintro i ⟨hi,hno⟩ ih
 repeat' (first|refine pJ ?_|refine zc ?_ ?_|(intro h;first|(cases h;done)|rw[h]|skip))
 ·have hlt:i<l.length:=by simpa[aG]using h
  obtain⟨⟨a1,a2,a3,a4,a5,a6,a7⟩,hx⟩:∃x,l[i]?=some x:=⟨l[i],by simp[hlt]⟩
  refine af.index hX Z Z Z Z Z Z Z Z Z Z i Z (by rw[kK,hx];rfl) Z ?_
  repeat' (first|refine pJ ?_|refine zc ?_ ?_|(intro h;first|(cases h;done)|rw[h]|skip)|refine uC Z (hp ⟨a1,a2,a3,a4,a5,a6,a7⟩ (aaB hx)) ?_)
  ·rw[vW p l i ⟨a1,a2,a3,a4,a5,a6,a7⟩ hx h hno]
  ·have BA:=h
   have yF:=ih (i+1) ⟨bn,λj x hj YZ=>by
    by_cases hji:j=i
    ·subst hji;rw[hx]at YZ;simp at YZ;subst YZ;exact BA
    ·exact hno j x bn YZ⟩ bn
   refine AK.again yF ⟨.inl ?_,.inl Z,.inl Z,.inl Z,trivial⟩ trivial trivial Z Z Z;rw[iy bn bn];rfl
 ·have hge:l.length<=i:=by simpa[aG]using h
  rw[zf p l λj y hy=>hno j y abS hy]
def tI(l:L Vl)(p:Vl->Bool)(f:FuncId)(W:L CV)(Y:∀x∈l,ah f (bH x::W) (.bool (p x)))(K:l.length<=1099511627776) :
  ah 53 [.sl 7 (aa l),.rR f W] (.bool (l.any p)):=by
 refine qn func53 call53 λβ hf=>?_
 repeat' (first|refine pJ ?_|refine uC Z (HC l p f W Y K) ?_)
 rw[Bw]
def GJ(l r:L Vl)(q:Vl->Vl->Bool)(f:FuncId)(W:L CV)(V:∀x∈l,∀y∈r,ah f (bH x::bH y::W) (.bool (q x y)))(p:l.length<=1099511627776) :
  ah 135 [.sl 7 (aa l),.sl 7 (aa r),.rR f W] (.bool (rM q l r)):=by
 by_cases E:l.length=r.length
 ·have Y:((((aa l).length:Nat):Int) != (((aa r).length:Nat):Int))=false:=by rw[aG,aG,E];simp
  refine qn func135 call135 λβ hf=>?_
  repeat' (first|refine pJ ?_|refine zc ?_ ?_|(intro h;first|(cases h;done)|rw[h]|skip))
  refine AK.eL (α:=Nat) (λi=>i<=l.length/\rM q l r=rM q (l.drop i) (r.drop i)) (λi=>l.length-i)
   (λi=>[(17,.c (.int .i64 i)),(16,.c (.int .i64 (aa l).length)),(15,.c (.sl 7 (aa l))),(1,.c (.sl 7 (aa r))),(2,.c (.rR f W))]) (λ_=>[]) (λ_=>[]) [] 0
   ⟨bn,Z⟩ ce trivial trivial Z Z Z ?_
  rintro i ⟨K,N⟩ ih;rcases iq l i K with ⟨x,O,C⟩|S
  ·have A:=wv O;obtain⟨y,Q⟩:∃y,r[i]?=some y:=⟨r[i]' rP,cS⟩
   have hq:=V x C y (aaB Q);rw[dZ O,dZ Q]at N;simp only[rM]at N;obtain⟨U,a2,D,P,I,T,M⟩:=x;obtain⟨B,J,H,G,u,b6,b7⟩:=y
   repeat' (first|refine pJ ?_|refine zc ?_ ?_|(intro h;first|(cases h;done)|rw[h]|skip)|refine uI Z (i) Z (fA O) Z ?_|refine uI Z (i) Z (fA Q) Z ?_|refine uC Z hq ?_)
   ·rw[N];simp_all
   ·refine AK.again (ih (i+1) ⟨bD O,?_⟩ rP) ⟨.inl (gB rP),.inl Z,.inl Z,.inl Z,.inl Z,trivial⟩ trivial trivial Z Z Z;simp_all
  ·have A:=rV S
   repeat' (first|refine pJ ?_|refine zc ?_ ?_|(intro h;first|(cases h;done)|rw[h]|skip))
   rw[N,Eo q E S]
 ·have Y:((((aa l).length:Nat):Int) != (((aa r).length:Nat):Int))=true:=by rw[aG,aG];simp;omega
  rw[Ak q l r E];refine qn func135 call135 λβ hf=>?_;exact dq
def uF:∀(t:Vl),aM t<=8589934593->ah 61 [bH t] (.int .i64 (gQ t))
 |.mk k n a s J B code,I=>by
  have Y:=xJ J;simp only[aM]at I;have W:=kg J;have V:∀x∈J,ah 61 [bH x] (.int .i64 (gQ x)):=λx O=>uF x RR;have U:i64.wrap (1+i64.wrap (((s.length:Nat):Int).tdiv 8))=((1+s.length/8:Nat):Int):=by
   rw[show(8:Int)=((8:Nat):Int)from Z,<- Int.ofNat_tdiv,iy (n:=((s.length/8:Nat):Int)) bn bn,iy bn bn];omega
  rw[XO];refine qn func61 call61 λβ hf=>?_
  repeat' (first|refine pJ ?_|refine zc ?_ ?_|(intro h;first|(cases h;done)|rw[h]|skip))
  refine AK.eL (α:=Nat×Nat) (λz=>z.1<=J.length/\1+s.length/8+iP J=z.2+iP (J.drop z.1)) (λz=>J.length-z.1)
   (λz=>[(14,.c (.int .i64 z.1)),(13,.c (.int .i64 (aa J).length)),(12,.c (.sl 7 (aa J))),(3,.c (.int .i64 z.2))]) (λ_=>[]) (λ_=>[]) [] (0,1+s.length/8)
   ⟨bn,by rw[agb]⟩ ⟨.inl Z,.inl Z,.inl Z,.inl (aeb (λz=>some (AV.c (CV.int .i64 z))) U),trivial⟩ trivial trivial Z Z Z ?_
  rintro⟨i,m⟩ ⟨K,N⟩ ih;simp only at K N;rcases iq J i K with ⟨x,O,C⟩|S
  ·have A:=wv O;have hq:=V x C;rw[dZ O,OA]at N;have h2:=bD O;generalize gQ x=q at hq N;obtain⟨T,P,M,H,E,u,G⟩:=x
   repeat' (first|refine pJ ?_|refine zc ?_ ?_|(intro h;first|(cases h;done)|rw[h]|skip)|refine uI Z (i) Z (fA O) Z ?_|refine uC Z hq ?_)
   refine AK.again (ih (i+1,m+q) ⟨h2,by show 1+s.length/8+iP J=m+q+iP (J.drop (i+1));omega⟩ fo) ⟨.inl (gB bn),.inl Z,.inl Z,.inl (ab6 (a:=m) (b:=q) bn),trivial⟩ trivial trivial Z Z Z
  ·have A:=rV S;have Q:1+s.length/8+iP J=m:=by rw[N,S,aex,Q4,aeT]
   clear ih
   repeat' (first|refine pJ ?_|refine zc ?_ ?_|(intro h;first|(cases h;done)|rw[h]|skip))
   show(_:CV)=_;rw[Q]
termination_by t=>SizeOf.sizeOf t
decreasing_by
 have:=aee O;simp at this ⊢;omega
def vH:∀(t u:Nd),bM t<=1099511627776->ah 137 [aW t,aW u] (.bool (sH t u))
 |.mk U a2 D P J,.mk S q B N us,I=>by
  simp only[bM]at I;have Y:=gG J;have hq:=vR J us sH 137 [] (λx O y _=>vH x y ach) bn;rw[En]at hq;refine qn func137 call137 λβ hf=>?_
  repeat' (first|refine pJ ?_|refine zc ?_ ?_|(intro h;first|(cases h;done)|rw[h]|skip)|refine uC Z hq ?_)
  all_goals
   show(_:CV)=_;clear hf hq;simp_all [sH]
termination_by t=>SizeOf.sizeOf t
decreasing_by
 have:=aee O;simp at this ⊢;omega
end Go.Proofs
namespace Go.Proofs
open Go.cK
attribute [local irreducible] AK af bg
def vO(n:Int):Bool:=decide (n >= -1152921504606846976)&&decide (n<=1152921504606846976)
def oz(n:Int):Int×Int:=if vO n=true then(if n<0 then -n else n,0)else(0,2)
def mB(n:Int):Int×Int:=if vO n=true then(n,0)else(0,11)
def vg(a b:Int):Int×Int:=if vO a=true/\vO b=true then mB (a+b)else(0,2)
def kW(a b:Int):Int×Int:=if vO a=true/\vO b=true then mB (a-b)else(0,2)
def sU(a b:Int):Int×Int:=if vO a=true/\vO b=true then mB (a*b)else(0,2)
def iz(a b:Int):Int×Int×Int:=if vO a=true/\vO b=true then(if b=0 then(0,0,6)else(a/b,a%b,0))else(0,0,2)
def K9{a b q r:Int}(h:r+b*q=a)(Y:0<=r)(Q:0<b/\r<b\/b<0/\r < -b):a/b=q/\a%b=r:=by
 rcases Q with ⟨Q,h1⟩|⟨Q,h1⟩
 ·exact(Int.ediv_emod_unique Q).2 ⟨h,Y,h1⟩
 ·have h2:r+(-b)*(-q)=a:=by rw[Int.neg_mul_neg];exact h
  obtain⟨V,S⟩:=(Int.ediv_emod_unique (by omega:0 < -b)).2 ⟨h2,Y,h1⟩;rw[Int.ediv_neg]at V;rw[Int.emod_neg]at S;exact⟨bn,S⟩
def Q6(a b:Int)(Q:b≠0):a.tmod b+b*a.tdiv b=a/\(0<b -> -b<a.tmod b/\a.tmod b<b)/\(b<0->b<a.tmod b/\a.tmod b < -b) /\
  ((0<=a->0<=a.tmod b)/\(a<=0->a.tmod b<=0))/\(0<=a -> -a<=a.tdiv b/\a.tdiv b<=a)/\(a<=0->a<=a.tdiv b/\a.tdiv b <= -a):=by
 refine⟨Int.tmod_add_mul_tdiv a b,λh=>?_,λh=>?_,⟨λh=>Int.tmod_nonneg b h,λh=>?_⟩,λh=>?_,λh=>?_⟩
 ·refine⟨?_,agH a h⟩;have:=agH (-a) h;rw[Int.neg_tmod]at this;omega
 ·have h1:=agH a (by omega:0 < -b);have h2:=agH (-a) (by omega:0 < -b);rw[Int.neg_tmod]at h2;rw[Int.tmod_neg]at h1 h2;omega
 ·have:=Int.tmod_nonneg b (by omega:0 <= -a);rw[Int.neg_tmod]at this;omega
 ·have:=aht a b;omega
 ·have:=aht a b;omega
def mS{n:Int}:vO n=true ↔ -1152921504606846976<=n/\n<=1152921504606846976:=by simp[vO]
def jY(n:Int):ah 79 [.int .i64 n] (.bool (vO n)):=by
 refine qn func79 call79 λβ hf=>?_
 repeat' (first|refine sz ?_|refine zc ?_ ?_|(intro h;first|(cases h;done)|rw[h]|skip))
 all_goals (simp_all [vO];try omega)
abbrev two(x:Int×Int):CV := .eY [.int .i64 x.1,.int .i64 x.2]
abbrev three(x:Int×Int×Int):CV := .eY [.int .i64 x.1,.int .i64 x.2.1,.int .i64 x.2.2]
def WZ{a b c d:Int}(h:a=c)(C:b=d):CV.eY [.int .i64 a,.int .i64 b] = .eY [.int .i64 c,.int .i64 d]:=by rw[h,C]
def GK{a b c d e f:Int}(h:a=d)(C:b=e)(Y:c=f):CV.eY [.int .i64 a,.int .i64 b,.int .i64 c] = .eY [.int .i64 d,.int .i64 e,.int .i64 f]:=by rw[h,C,Y]
def Cm(n:Int):ah 125 [.int .i64 n] (two (oz n)):=by
 refine qn func125 call125 λβ hf=>?_
 repeat' (first|refine sz ?_|refine zc ?_ ?_|(intro h;first|(cases h;done)|rw[h]|skip)|refine uC Z (jY n) ?_)
 ·simp_all [oz,two]
 ·have h1:vO n=true:=by simp_all
  have h2:=mS.1 h1;rw[iy bn bn];simp_all [oz,two]
 ·simp_all [oz,two];omega
def Dm(n:Int):ah 150 [.int .i64 n] (two (mB n)):=by
 refine qn func150 call150 λβ hf=>?_
 repeat' (first|refine sz ?_|refine zc ?_ ?_|(intro h;first|(cases h;done)|rw[h]|skip)|refine uC Z (jY n) ?_)
 all_goals simp_all [mB,two]
def IX(a b:Int):ah 127 [.int .i64 a,.int .i64 b] (two (vg a b)):=by
 refine qn func127 call127 λβ hf=>?_
 repeat' (first|refine sz ?_|refine zc ?_ ?_|(intro h;first|(cases h;done)|rw[h]|skip)|refine uC Z (jY a) ?_|refine uC Z (jY b) ?_|refine uC Z (Dm _) ?_)
 all_goals try (simp_all [vg,two];done)
 ·rename_i h1;obtain⟨h1,h2⟩:vO a=true/\vO b=true:=by simp_all
  have V:=mS.1 h1;have S:=mS.1 h2;rw[iy bn bn];simp[vg,two,h1,h2]
def yu(a b:Int):ah 129 [.int .i64 a,.int .i64 b] (two (kW a b)):=by
 refine qn func129 call129 λβ hf=>?_
 repeat' (first|refine sz ?_|refine zc ?_ ?_|(intro h;first|(cases h;done)|rw[h]|skip)|refine uC Z (jY a) ?_|refine uC Z (jY b) ?_|refine uC Z (Dm _) ?_)
 all_goals try (simp_all [kW,two];done)
 ·rename_i h1;obtain⟨h1,h2⟩:vO a=true/\vO b=true:=by simp_all
  have V:=mS.1 h1;have S:=mS.1 h2;rw[iy bn bn];simp[kW,two,h1,h2]
def vk(a b:Int):ah 152 [.int .i64 a,.int .i64 b] (three (iz a b)):=by
 refine qn func152 call152 λβ hf=>?_
 repeat' (first|refine sz ?_|refine zc ?_ ?_|(intro h;first|(cases h;done)|rw[h]|skip)|refine uC Z (jY a) ?_|refine uC Z (jY b) ?_|(first|refine af.quo hX kn Z Z Z Z Z Z Z (by simp_all) ?_|refine af.rem hX kn Z Z Z Z Z Z Z (by simp_all) ?_))
 all_goals try (simp_all [iz,three];done)
 all_goals
  obtain⟨h1,h2,V⟩:vO a=true/\vO b=true/\b≠0:=by simp_all
  have S:=mS.1 h1;have K:=mS.1 h2;obtain⟨I,W,G,⟨E,U⟩,e6,e7⟩:=Q6 a b V;have T : -1152921504606846976<=a.tdiv b/\a.tdiv b<=1152921504606846976:=by omega
  rw[show iz a b=(a/b,a%b,0)from by simp[iz,h1,h2,V]]
 ·have D:a.tmod b<0:=by simp_all
  have H:b>0:=by simp_all
  obtain⟨J,Y⟩:=K9 (a:=a) (b:=b) (q:=a.tdiv b-1) (r:=a.tmod b+b) (by rw[Int.mul_sub];omega) bn bn;rw[iy (n:=a.tdiv b) bn bn,iy bn bn,iy bn bn];exact GK J.symm Y.symm Z
 ·have D:a.tmod b<0:=by simp_all
  have H:b<0:=by simp_all;omega
  obtain⟨J,Y⟩:=K9 (a:=a) (b:=b) (q:=a.tdiv b+1) (r:=a.tmod b-b) (by rw[Int.mul_add];omega) bn bn;rw[iy (n:=a.tdiv b) bn bn,iy bn bn,iy bn bn];exact GK J.symm Y.symm Z
 ·have D:a.tmod b>=0:=by simp_all
  obtain⟨J,Y⟩:=K9 (a:=a) (b:=b) (q:=a.tdiv b) (r:=a.tmod b) bn bn bn;rw[iy bn bn];exact GK J.symm Y.symm Z
end Go.Proofs
namespace Go.Proofs
open Go.cK
def OC{k n a:Int}{s:L UInt8}{J:L Vl}{B:L Ty}{code:L Nd}{t:Ty}(h:bL (.mk k n a s J B code) t=true)(Q:ig t=false) :
  k=bS t/\(k=9->J.length<=1/\∀x∈J,bL x (aE t 0)=true/\ig (aE t 0)=false)/\(k=11->J.length=2/\dL J (au t)=true/\(au t).length=2/\nY (au t)=false) /\
   (k=12->0<=n/\n<=1/\J.length=1/\∀x∈J,bL x (aE t n.toNat)=true/\ig (aE t n.toNat)=false):=by
 obtain⟨h1,h2,V⟩:=qm h;have Y:¬(k≠bS t\/cz (.mk k n a s J B code)=false\/200<s.length):=by
  rintro(h|h|h)
  ·exact h h1
  ·rw[h2]at h;simp at h
  ·omega
 simp only[bL,if_neg Y]at h;obtain⟨W,T⟩:=jk Q;rw[<- h1]at W;refine⟨h1,?_,?_,?_⟩
 ·rintro rfl;simp at h;have E:(au t).length=1:=by(have:arity 9=1:=by decide);omega
  refine⟨h.1.2,λx O=>⟨(fN _ _).1 h.2 x O,dQ T (l8 bn)⟩⟩
 ·rintro rfl;simp at h;have E:(au t).length=2:=by(have:arity 11=2:=by decide);omega
  exact⟨h.1.2,h.2,E,T⟩
 ·rintro rfl;simp at h;have E:(au t).length=2:=by(have:arity 12=2:=by decide);omega
  refine⟨h.1.1,h.1.2.1,h.1.2.2,λx O=>⟨(fN _ _).1 h.2 x O,dQ T (l8 bn)⟩⟩
def agW(n a:Int)(s:L UInt8)(J:L Vl)(B:L Ty)(code:L Nd)(k' q A:Int)(Q:L UInt8)(C:L Vl)(Y:L Ty)(W:L Nd):dR (.mk 6 n a s J B code) (.mk k' q A Q C Y W)=fh s Q:=rfl
def agX(n a:Int)(s:L UInt8)(J:L Vl)(B:L Ty)(code:L Nd)(k' q A:Int)(Q:L UInt8)(C:L Vl)(Y:L Ty)(W:L Nd):dR (.mk 9 n a s J B code) (.mk k' q A Q C Y W)=if vG J.length C.length=0 then jK J C else vG J.length C.length:=rfl
def aet(n a:Int)(s:L UInt8)(J:L Vl)(B:L Ty)(code:L Nd)(k' q A:Int)(Q:L UInt8)(C:L Vl)(Y:L Ty)(W:L Nd):dR (.mk 11 n a s J B code) (.mk k' q A Q C Y W)=jK J C:=rfl
def aeu(n a:Int)(s:L UInt8)(J:L Vl)(B:L Ty)(code:L Nd)(k' q A:Int)(Q:L UInt8)(C:L Vl)(Y:L Ty)(W:L Nd):dR (.mk 12 n a s J B code) (.mk k' q A Q C Y W)=if vG n q=0 then jK J C else vG n q:=rfl
def agY{k:Int}(h1:k≠6)(h2:k≠9)(V:k≠11)(S:k≠12)(n a:Int)(s:L UInt8)(J:L Vl)(B:L Ty)(code:L Nd)(k' q A:Int)(Q:L UInt8)(C:L Vl)(Y:L Ty)(W:L Nd):dR (.mk k n a s J B code) (.mk k' q A Q C Y W)=vG n q:=by
 simp only[dR,if_neg h1,if_neg h2,if_neg V,if_neg S]
def Jc(x:Vl)(l:L Vl)(y:Vl)(r:L Vl):jK (x::l) (y::r)=if dR x y=0 then jK l r else dR x y:=rfl
def OD(r:L Vl):jK [] r=0:=by cases r<;>rfl
attribute [local irreducible] AK af bg cn dR jK bL aS dL vA xG dh gJ sH pZ vG fh cz
def CU:∀(v w:Vl),aM v<=1099511627776->ah 98 [bH v,bH w] (.bool (vA v w))
 |.mk k n a s J B code,.mk k' q A Q C Y W,M=>by
  simp only[aM]at M;have S:=kg J;have P:=j9 B;have T:=gG code;have h1:=GJ J C vA 98 [] (λx O y _=>CU x y RR) bn;have h2:=qz B Y dh 83 [] (λx O y _=>gU x y (by have:=cL O;omega)) bn;have V:=vR code W sH 137 [] (λx O y _=>vH x y ach) bn;rw[OB]at h1;rw[Al]at h2;rw[En]at V;have U:vA (.mk k n a s J B code) (.mk k' q A Q C Y W)=(k==k'&&n==q&&a==A&&s==Q&&xG J C&&gJ B Y&&pZ code W):=by simp only[vA]
  rw[U];generalize xG J C=b1 at h1;generalize gJ B Y=b2 at h2;generalize pZ code W=b3 at V;clear U;refine qn func98 call98 λβ hf=>?_
  repeat' (first|refine pJ ?_|refine zc ?_ ?_|(intro h;first|(cases h;done)|rw[h]|skip)|refine uC Z h1 ?_|refine uC Z h2 ?_|refine uC Z V ?_)
  all_goals
   show(_:CV)=_;clear hf h1 h2 V;simp_all
termination_by t=>SizeOf.sizeOf t
decreasing_by
 have:=aee O;simp at this ⊢;omega
def sY(n:Int):ah 80 [.int .i64 n] (.bool (decide (0<=n)&&decide (n<12))):=by
 refine qn func80 call80 λβ hf=>?_
 repeat' (first|refine pJ ?_|refine zc ?_ ?_|(intro h;first|(cases h;done)|rw[h]|skip))
 all_goals
  show(_:CV)=_;clear hf;simp_all
def OE(k n a:Int)(s:L UInt8)(J:L Vl)(B:L Ty)(code:L Nd):cz (.mk k n a s J B code)=(if k=15 then decide (B.length=0/\code.length=0/\s=[])
  else if k=8 then decide (B.length=1/\code.length=0/\s=[])
  else if k=14 then decide (B.length=2/\a=0/\n=0/\s=[]/\J.length=0)
  else if k=6 then decide (B.length=0/\code.length=0/\a=0/\n=0/\J.length=0)
  else decide (B.length=0/\code.length=0/\a=0/\s=[])):=by simp only[cz]
def OF(v:Vl):ah 78 [bH v] (.bool (cz v)):=by
 obtain⟨k,n,a,s,J,B,code⟩:=v;rw[OE];by_cases u:k=15
 ·subst u;refine qn func78 call78 λβ hf=>?_
  repeat' (first|refine pJ ?_|refine zc ?_ ?_|(intro h;first|(cases h;done)|rw[h]|skip))
  all_goals
   show(_:CV)=_;clear hf;simp only[aZ,bt,aG,agB,agm]at *;rcases B with _|⟨_,_|⟨_,_|⟨_,_⟩⟩⟩<;>simp_all<;>(try omega)<;>rcases s with _|⟨_,_⟩<;>rcases J with _|⟨_,_⟩<;>rcases code with _|⟨_,_⟩<;>simp_all<;>omega
 have I:(k==15)=false:=by simpa using u
 by_cases H:k=8
 ·subst H;refine qn func78 call78 λβ hf=>?_
  repeat' (first|refine pJ ?_|refine zc ?_ ?_|(intro h;first|(cases h;done)|rw[h]|skip))
  all_goals
   show(_:CV)=_;clear hf;simp only[aZ,bt,aG,agB,agm]at *;rcases B with _|⟨_,_|⟨_,_|⟨_,_⟩⟩⟩<;>simp_all<;>(try omega)<;>rcases s with _|⟨_,_⟩<;>rcases J with _|⟨_,_⟩<;>rcases code with _|⟨_,_⟩<;>simp_all<;>omega
 have W:(k==8)=false:=by simpa using H
 by_cases p:k=14
 ·subst p;refine qn func78 call78 λβ hf=>?_
  repeat' (first|refine pJ ?_|refine zc ?_ ?_|(intro h;first|(cases h;done)|rw[h]|skip))
  all_goals
   show(_:CV)=_;clear hf;simp only[aZ,bt,aG,agB,agm]at *;rcases B with _|⟨_,_|⟨_,_|⟨_,_⟩⟩⟩<;>simp_all<;>(try omega)<;>rcases s with _|⟨_,_⟩<;>rcases J with _|⟨_,_⟩<;>rcases code with _|⟨_,_⟩<;>simp_all<;>omega
 have Y:(k==14)=false:=by simpa using p
 by_cases c4:k=6
 ·subst c4;refine qn func78 call78 λβ hf=>?_
  repeat' (first|refine pJ ?_|refine zc ?_ ?_|(intro h;first|(cases h;done)|rw[h]|skip))
  all_goals
   show(_:CV)=_;clear hf;simp only[aZ,bt,aG,agB,agm]at *;rcases B with _|⟨_,_|⟨_,_|⟨_,_⟩⟩⟩<;>simp_all<;>(try omega)<;>rcases s with _|⟨_,_⟩<;>rcases J with _|⟨_,_⟩<;>rcases code with _|⟨_,_⟩<;>simp_all<;>omega
 have E:(k==6)=false:=by simpa using c4
 refine qn func78 call78 λβ hf=>?_
 repeat' (first|refine pJ ?_|refine zc ?_ ?_|(intro h;first|(cases h;done)|rw[h]|skip))
 all_goals
  show(_:CV)=_;clear hf;simp only[aZ,bt,aG,agB,agm]at *;rcases B with _|⟨_,_|⟨_,_|⟨_,_⟩⟩⟩<;>simp_all<;>(try omega)<;>rcases s with _|⟨_,_⟩<;>rcases J with _|⟨_,_⟩<;>rcases code with _|⟨_,_⟩<;>simp_all<;>omega
def Q7{l:L Vl}(h:l.length=1):∃x,l=[x]:=by
 match l,h with
 |[x],_=>exact⟨x,Z⟩
def ZM{l:L Vl}(h:l.length=2):∃x y,l=[x,y]:=by
 match l,h with
 |[x,y],_=>exact⟨x,y,Z⟩
def CM{l:L Ty}(h:l.length=2):∃x y,l=[x,y]:=by
 match l,h with
 |[x,y],_=>exact⟨x,y,Z⟩
def La(x y:Vl):jK [x] [y]=dR x y:=by rw[Jc,OD];split<;>simp_all
def ZN(x K y Y:Vl):jK [x,K] [y,Y]=if dR x y=0 then dR K Y else dR x y:=by rw[Jc,La]
def oV:∀(v w:Vl)(t:Ty),ig t=false->bL v t=true->bL w t=true->aM v<=1099511627776->ah 82 [bH v,bH w] (.int .i64 (dR v w))
 |.mk k n a s J types code,.mk k' q a' s' C P code',t,hb,hv,hw,hsz=>by
  simp only[aM]at hsz;obtain⟨p0,p9,S,p12⟩:=OC hv hb;obtain⟨q0,q9,Q,q12⟩:=OC hw hb;obtain rfl:k'=k:=by rw[p0,q0]
  clear hv hw;have V:∀x∈J,∀y u,ig u=false->bL x u=true->bL y u=true->ah 82 [bH x,bH y] (.int .i64 (dR x y)):=λx O y u h1 h2 h3=>oV x y u h1 h2 h3 RR;by_cases c1:k'=6
  ·subst c1;rw[agW];have h1:=Cx s s';refine qn func82 call82 λβ hf=>?_;exact dq
  by_cases c2:k'=9
  ·subst c2;rw[agX];have h1:=Ad (((aa J).length:Nat):Int) (((aa C).length:Nat):Int);by_cases U:vG J.length C.length=0
   ·rw[if_pos U];rw[aG,aG,U,<- aG,<- aG C]at h1;have Ag:=oh.1 U;by_cases D:J.length=0
    ·have e5:((((aa J).length:Nat):Int)==0)=true:=by rw[aG];simpa using D
     rw[List.length_eq_zero_iff.1 D,OD];rw[List.length_eq_zero_iff.1 D]at h1 e5;refine qn func82 call82 λβ hf=>?_;exact dq
    ·have e5:((((aa J).length:Nat):Int)==0)=false:=by rw[aG];simpa using D
     obtain⟨x,K⟩:=Q7 (show J.length=1 by have:=(p9 rfl).1;omega);obtain⟨y,W⟩:=Q7 (show C.length=1 by have:=(q9 rfl).1;omega);have O:=(p9 Z).2 x acZ;have N:=(q9 Z).2 y (by rw[W];simp);have h2:=V x acZ y (aE t 0) O.2 O.1 N.1;have g1:J[0]?=some x:=by rw[K];rfl
     have H:C[0]?=some y:=by rw[W];rfl
     have Y:jK J C=dR x y:=by rw[K,W,La]
     rw[Y];obtain⟨M,I,E,B,A,x6,x7⟩:=x;obtain⟨y1,y2,y3,y4,y5,y6,y7⟩:=y;refine qn func82 call82 λβ hf=>?_;have vV:=fA g1;have Ep:=fA H;exact dq
   ·rw[if_neg U];have e1:(vG J.length C.length != 0)=true:=by simpa using U
    rw[<- aG,<- aG C]at e1 ⊢;refine qn func82 call82 λβ hf=>?_;exact dq
  by_cases c3:k'=11
  ·subst c3;rw[aet];obtain⟨m1,p,m3,G⟩:=S rfl;obtain⟨r1,T,_,_⟩:=Q rfl;obtain⟨x,x',K⟩:=ZM m1;obtain⟨y,y',W⟩:=ZM r1;obtain⟨u,u',hU⟩:=CM m3;rw[K,hU]at p;rw[W,hU]at T;rw[hU]at G;simp only[dL,aai]at p T;simp only[nY,aeQ]at G;have h1:=V x acZ y u G.1 p.1 T.1;have h2:=V x' acZ y' u' G.2.1 p.2.1 T.2.1;have g1:J[0]?=some x:=by rw[K];rfl
   have H:C[0]?=some y:=by rw[W];rfl
   have g3:J[1]?=some x':=by rw[K];rfl
   have g4:C[1]?=some y':=by rw[W];rfl
   have Y:jK J C=if dR x y=0 then dR x' y' else dR x y:=by rw[K,W,ZN]
   rw[Y];clear p T Y K W S Q;obtain⟨M,I,E,B,A,x6,x7⟩:=x;obtain⟨y1,y2,y3,y4,y5,y6,y7⟩:=y;obtain⟨z1,z2,z3,z4,z5,z6,z7⟩:=x';obtain⟨w1,w2,w3,w4,w5,w6,w7⟩:=y';by_cases U:dR (.mk M I E B A x6 x7) (.mk y1 y2 y3 y4 y5 y6 y7)=0
   ·rw[if_pos U];rw[U]at h1;refine qn func82 call82 λβ hf=>?_;have Ji:=fA g1;have Lr:=fA H;have Ls:=fA g3;have OT:=fA g4;exact dq
   ·rw[if_neg U];have e1:(dR (.mk M I E B A x6 x7) (.mk y1 y2 y3 y4 y5 y6 y7) != 0)=true:=by simpa using U
    refine qn func82 call82 λβ hf=>?_;have US:=fA g1;have X8:=fA H;have acu:=fA g3;have ZQ:=fA g4;exact dq
  by_cases c4:k'=12
  ·subst c4;rw[aeu];have h1:=Ad n q;obtain⟨m1,p,m3,G⟩:=p12 rfl;obtain⟨r1,T,r3,r4⟩:=q12 rfl;obtain⟨x,K⟩:=Q7 m3;obtain⟨y,W⟩:=Q7 r3;by_cases U:vG n q=0
   ·rw[if_pos U];rw[U]at h1;have hnn:=oh.1 U;have O:=G x acZ;have N:=r4 y (by rw[W];simp);rw[<- hnn]at N;have h2:=V x acZ y (aE t n.toNat) O.2 O.1 N.1;have g1:J[0]?=some x:=by rw[K];rfl
    have H:C[0]?=some y:=by rw[W];rfl
    have Y:jK J C=dR x y:=by rw[K,W,La]
    rw[Y];obtain⟨M,I,E,B,A,x6,x7⟩:=x;obtain⟨y1,y2,y3,y4,y5,y6,y7⟩:=y;refine qn func82 call82 λβ hf=>?_;have ZR:=fA g1;have ZT:=fA H;exact dq
   ·rw[if_neg U];have e1:(vG n q != 0)=true:=by simpa using U
    refine qn func82 call82 λβ hf=>?_;exact dq
  rw[agY c1 c2 c3 c4];have e1:(k'==6)=false:=by simpa using c1
  have e2:(k'==9)=false:=by simpa using c2
  have Y:(k'==11)=false:=by simpa using c3
  have e4:(k'==12)=false:=by simpa using c4
  have h1:=Ad n q;refine qn func82 call82 λβ hf=>?_;exact dq
termination_by v=>SizeOf.sizeOf v
decreasing_by
 have:=aee O;simp at this ⊢;omega
end Go.Proofs
