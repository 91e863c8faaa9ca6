/- What items of package check answers. -/
import Derived.Test.YtdnpapgijbhofaaGreatDoorChk3
import Derived.Test.YtdnpapgijbhofaaGreatDoorVPar
import Derived.Laws.Externs
import Derived.Lib.Bytealg
import Derived.Test.YtdnpapgijbhofaaGreatDoorTPure
import Derived.Test.YtdnpapgijbhofaaGreatDoorCtx
open Go.IntKind
open Go.Proofs.Tryz
set_option linter.defProp false
set_option maxHeartbeats 0
set_option linter.unusedVariables false
set_option linter.unusedSimpArgs false
set_option maxHeartbeats 0
set_option maxRecDepth 100000
namespace Go.Proofs
open Go.cw
attribute [local irreducible] AK ah aR bM aJ gl ni ig jc br cz fZ cE j8 gJ
def jo{a:L CV}{r:CR}(h:r=bw 5:=by first|(simp[iW,dD,aU,aV,aaE,aaH,dM];done)|(simp[*,iW,dD,aU,aV,aaE,aaH,dM];done)) (q:af 126 a (.eF [.agg [.any,.any],.int .i64 5]):=by
  refine qn func126 call126 λβ hf=>?_
  exact dw):af 126 a (gV r):=by rw[h,dL bn];exact q
def vv{a:L CV}{r:CR}{l:L Ty}(h:r=gy l:=by first|(simp[iW,dD,aU,aV,aaE,aaH,dM];done)|(simp[*,iW,dD,aU,aV,aaE,aaH,dM];done)) (q:af 126 a (.eF [.agg [.sl 2 (az l),.bool false],.int .i64 0]):=by
  refine qn func126 call126 λβ hf=>?_
  exact dw):af 126 a (gV r):=by rw[h];exact q
def K3(P nN:Int)(nS:L UInt8)(M:L Nd)(G s:L Ty)(hP:59<=P/\P<=63)(hf:bP P M=some G)(B:sL s)(hl:s.length<=9999999990)(hsz:aO M<=8589934593)
  (D:∀a∈M,∀s':L Ty,sL s'->s'.length<=s.length+1->af 59 [.sl 5 (aD (cG a)),.sl 2 (az s')] (wG (cz (cG a) (s',false)))) :
  af 126 [aM (.mk 2 nN P nS M),.sl 2 (az G),.sl 2 (az s)] (gV (iW P (cE M) G s)):=by
 have Ul:P=59\/P=60\/P=61\/P=62\/P=63:=by omega
 clear hP;rcases Ul with rfl|rfl|rfl|rfl|rfl
 ·obtain⟨rfl,rfl⟩:=dG hf rfl;clear hf;rcases s with _|⟨⟨T,us⟩,r⟩
  have Q:=lB ([]) [6];have sW:=lB ([]) [10];have hk2:=lB ([]) [13];exact jo;by_cases N:T=6;subst N;have Q:=zW (.mk 6 us::r) [6];have hp:=uh (r) [.mk 4 []];have y0:=cW 4;exact vv (l := .mk 4 []::r);by_cases K:T=10;subst K;have Q:=lB (.mk 10 us::r) [6];have sW:=zW (.mk 10 us::r) [10];have hp:=uh (r) [.mk 4 []];have y0:=cW 4;exact vv (l := .mk 4 []::r);by_cases hT2:T=13;subst hT2;have Q:=lB (.mk 13 us::r) [6];have sW:=lB (.mk 13 us::r) [10];have hk2:=zW (.mk 13 us::r) [13];have hp:=uh (r) [.mk 4 []];have y0:=cW 4;exact vv (l := .mk 4 []::r);have Q:=lB (.mk T us::r) [6];have sW:=lB (.mk T us::r) [10];have hk2:=lB (.mk T us::r) [13];exact jo
 ·obtain⟨n1,p1,S1,xs,rfl,rfl⟩:=K8 hf rfl;clear hf;rcases s with _|⟨⟨T,us⟩,r⟩
  have Q:=lB ([]) [10];have sW:=lB ([]) [13];exact jo;by_cases N:T=10;subst N;simp only[aag]at hl;have zr:=aQ r;have oX:=(qg B).2;obtain⟨⟨X,C⟩,rfl,O⟩:=fN (B (.mk 10 us) cc) rfl;have Q:=zW (.mk 10 [.mk X C]::r) [10];have w1:=D (.mk 3 n1 p1 S1 xs) cc (.mk X C::r) (mD O oX) cS;have I:=lK xs (.mk X C::r,false) (mD O oX);rw[show iW 60 (cE ([.mk 3 n1 p1 S1 xs])) ([]) (.mk 10 [.mk X C]::r)=cZ (cz xs (.mk X C::r,false)) (gy (r))from by simp[iW,dD,aU,aV,aaE,aaH,dM,cE]];simp only[cG]at w1;generalize cz xs (.mk X C::r,false)=r1 at w1 I ⊢;obtain⟨⟨J,E⟩,e1⟩:=r1;simp only[aag]at I;change aR _ _ _ _ (gV (cZ ((J,E),e1) ((r,false),0)));have hm:=jF ((J,E),e1) ((r,false),0) I.1 xj;generalize cZ ((J,E),e1) ((r,false),0)=rm at hm ⊢;obtain⟨⟨tm,bm⟩,em⟩:=rm;refine qn func126 call126 λβ hf=>?_;have As:=fB r ai;exact dw;by_cases K:T=13;subst K;simp only[aag]at hl;have zr:=aQ r;have oX:=(qg B).2;have O:nF (.mk 11 us):=BG (B (.mk 13 us) cc) Z;obtain⟨⟨X,C⟩,⟨Y,S⟩,rfl,hx1,hy1⟩:=fE O rfl;have Q:=lB (.mk 13 [.mk X C,.mk Y S]::r) [10];have sW:=zW (.mk 13 [.mk X C,.mk Y S]::r) [13];have w1:=D (.mk 3 n1 p1 S1 xs) cc (.mk 11 [.mk X C,.mk Y S]::r) (mD O oX) cS;have I:=lK xs (.mk 11 [.mk X C,.mk Y S]::r,false) (mD O oX);rw[show iW 60 (cE ([.mk 3 n1 p1 S1 xs])) ([]) (.mk 13 [.mk X C,.mk Y S]::r)=cZ (cz xs (.mk 11 [.mk X C,.mk Y S]::r,false)) (gy (r))from by simp[iW,dD,aU,aV,aaE,aaH,dM,cE]];simp only[cG]at w1;generalize cz xs (.mk 11 [.mk X C,.mk Y S]::r,false)=r1 at w1 I ⊢;obtain⟨⟨J,E⟩,e1⟩:=r1;simp only[aag]at I;change aR _ _ _ _ (gV (cZ ((J,E),e1) ((r,false),0)));have hm:=jF ((J,E),e1) ((r,false),0) I.1 xj;generalize cZ ((J,E),e1) ((r,false),0)=rm at hm ⊢;obtain⟨⟨tm,bm⟩,em⟩:=rm;refine qn func126 call126 λβ hf=>?_;have KB:=dB 11 [.mk X C,.mk Y S];have Uk:=fB r ai;exact dw;have Q:=lB (.mk T us::r) [10];have sW:=lB (.mk T us::r) [13];exact jo
 obtain⟨x0,y0,t,u,rfl,rfl,ht,hu⟩:=Xt hf rfl;clear hf;have ht2:=ht.2;obtain⟨V,ws⟩:=t;have hu2:=hu.2;obtain⟨V2,SF⟩:=u;have h2:=mB (.mk V ws) ai;cases H:gl (.mk V ws);rw[H]at h2;exact jo;rw[H]at h2;have hp:=uh (s) [.mk 13 [.mk V ws,.mk V2 SF]];have y0:=dB 13 [.mk V ws,.mk V2 SF];exact vv (l := .mk 13 [.mk V ws,.mk V2 SF]::s)
 ·obtain⟨rfl,rfl⟩:=dG hf rfl;clear hf;rcases s with _|⟨⟨T,us⟩,_|⟨⟨U,vs⟩,q⟩⟩
  have A:=lB ([]) [0,13];exact jo;have A:=lB ([.mk T us]) [0,13];exact jo;by_cases hU:U=13;subst hU;obtain⟨⟨X,C⟩,⟨Y,S⟩,rfl,O,hy⟩:=fE (B (.mk 13 vs) cc) rfl;have A:=zW (.mk T us :: .mk 13 [.mk X C,.mk Y S]::q) [0,13];have hy2:=hy.2;have h1:=gn (.mk T us) (.mk X C) ga;have h2:=vC (.mk Y S) ai;cases g1:cV (.mk T us) (.mk X C);rw[g1]at h1;exact jo;cases H:ni (.mk Y S);rw[g1]at h1;rw[H]at h2;exact jo;rw[g1]at h1;rw[H]at h2;have hp:=uh (q) [.mk 9 [.mk Y S]];have y0:=dB 9 [.mk Y S];exact vv (l := .mk 9 [.mk Y S]::q);have A:=lB (.mk T us :: .mk U vs::q) [0,13];exact jo
 obtain⟨rfl,rfl⟩:=dG hf rfl;clear hf;rcases s with _|⟨⟨T,us⟩,_|⟨⟨U,vs⟩,_|⟨⟨W,qs⟩,q⟩⟩⟩
 have A:=lB ([]) [0,9,13];exact jo;have A:=lB ([.mk T us]) [0,9,13];exact jo;have A:=lB ([.mk T us,.mk U vs]) [0,9,13];exact jo;by_cases hU:U=9/\W=13;obtain⟨rfl,rfl⟩:=hU;obtain⟨⟨X,C⟩,⟨Y,S⟩,rfl,O,hy⟩:=fE (B (.mk 13 qs) cc) rfl;obtain⟨⟨Zz,os⟩,rfl,hz⟩:=fN (B (.mk 9 vs) cc) rfl;have A:=zW (.mk T us :: .mk 9 [.mk Zz os] :: .mk 13 [.mk X C,.mk Y S]::q) [0,9,13];have hz2:=hz.2;have h1:=gn (.mk T us) (.mk X C) ga;have h2:=gn (.mk Zz os) (.mk Y S) ai;cases g1:cV (.mk T us) (.mk X C);rw[g1]at h1;exact jo;cases H:cV (.mk Zz os) (.mk Y S);rw[g1]at h1;rw[H]at h2;exact jo;rw[g1]at h1;rw[H]at h2;have hp:=Ql (.mk 13 [.mk X C,.mk Y S]::q);exact vv (l := .mk 13 [.mk X C,.mk Y S]::q);have hT2:U=9->¬W=13:=λa b=>hU ⟨a,b⟩;have A:=lB (.mk T us :: .mk U vs :: .mk W qs::q) [0,9,13];have hT3:¬(U=9/\W=13/\cV (.mk T us) (qs.getD 0 lJ)=true/\cV (vs.getD 0 lJ) (qs.getD 1 lJ)=true):=λh=>hU ⟨h.1,h.2.1⟩;rw[show iW 63 (cE ([])) ([]) (.mk T us :: .mk U vs :: .mk W qs::q)=bw 5 from by unfold iW;rw[if_neg bn,if_neg bn,if_neg bn,if_neg bn,if_pos rfl];exact if_neg hT3,dL bn];exact qdw func126 call126
end Go.Proofs
namespace Go.Proofs
open Go.cw
attribute [local irreducible] AK ah aR bM aJ gl ni ig jc br cz fZ cE j8 gJ
def kZ{a:L CV}{r:CR}(h:r=bw 5:=by first|(simp[eP,dD,aU,aV,aaE,aaH,dM];done)|(simp[*,eP,dD,aU,aV,aaE,aaH,dM];done)) (q:af 127 a (.eF [.agg [.any,.any],.int .i64 5]):=by
  refine qn func127 call127 λβ hf=>?_
  exact dw):af 127 a (gV r):=by rw[h,dL bn];exact q
def SG{a:L CV}{r:CR}{l:L Ty}(h:r=gy l:=by first|(simp[eP,dD,aU,aV,aaE,aaH,dM];done)|(simp[*,eP,dD,aU,aV,aaE,aaH,dM];done)) (q:af 127 a (.eF [.agg [.sl 2 (az l),.bool false],.int .i64 0]):=by
  refine qn func127 call127 λβ hf=>?_
  exact dw):af 127 a (gV r):=by rw[h];exact q
def F9(P nN:Int)(nS:L UInt8)(M:L Nd)(S s:L Ty)(hP:64<=P/\P<=68)(hf:bP P M=some S)(hs:sL s)(hl:s.length<=9999999990)(hsz:aO M<=8589934593)
  (D:∀a∈M,∀s':L Ty,sL s'->s'.length<=s.length+1->af 59 [.sl 5 (aD (cG a)),.sl 2 (az s')] (wG (cz (cG a) (s',false)))) :
  af 127 [aM (.mk 2 nN P nS M),.sl 2 (az S),.sl 2 (az s)] (gV (eP P M (cE M) S s)):=by
 have Ul:P=64\/P=65\/P=66\/P=67\/P=68:=by omega
 clear hP;rcases Ul with rfl|rfl|rfl|rfl|rfl
 ·obtain⟨W,G,I,xs,n2,p2,S2,B,rfl,rfl⟩:=Bu hf rfl;clear hf;rcases s with _|⟨⟨T,us⟩,r⟩
  have A:=lB ([]) [2];exact kZ;by_cases hT:T=2;subst hT;simp only[aag]at hl;have zr:=aQ r;have oX:=(qg hs).2;have A:=zW (.mk 2 us::r) [2];have C:=D (.mk 3 W G I xs) cc (r) oX cS;have Q:=lK xs (r,false) oX;have w2:=D (.mk 3 n2 p2 S2 B) cc (r) oX cS;have o2:=lK B (r,false) oX;rw[show eP 64 ([.mk 3 W G I xs,.mk 3 n2 p2 S2 B]) (cE ([.mk 3 W G I xs,.mk 3 n2 p2 S2 B])) ([]) (.mk 2 us::r)=cZ (cz xs (r,false)) (cz B (r,false))from by simp[eP,dD,aU,aV,aaE,aaH,dM,cE]];simp only[cG]at C;generalize cz xs (r,false)=r1 at C Q ⊢;obtain⟨⟨O,N⟩,e1⟩:=r1;simp only[aag]at Q;simp only[cG]at w2;generalize cz B (r,false)=r2 at w2 o2 ⊢;obtain⟨⟨t2,b2⟩,e2⟩:=r2;simp only[aag]at o2;have hm:=jF ((O,N),e1) ((t2,b2),e2) Q.1 xj;generalize cZ ((O,N),e1) ((t2,b2),e2)=rm at hm ⊢;obtain⟨⟨tm,bm⟩,em⟩:=rm;refine qn func127 call127 λβ hf=>?_;have As:=fB r ai;exact dw;have A:=lB (.mk T us::r) [2];exact kZ
 ·obtain⟨W,G,I,xs,rfl,rfl⟩:=K8 hf rfl;clear hf;rcases s with _|⟨⟨T,us⟩,r⟩
  have A:=lB ([]) [2];exact kZ;by_cases hT:T=2;subst hT;simp only[aag]at hl;have zr:=aQ r;have oX:=(qg hs).2;have A:=zW (.mk 2 us::r) [2];rw[show eP 65 ([.mk 3 W G I xs]) (cE ([.mk 3 W G I xs])) ([]) (.mk 2 us::r)=(if(cZ (cz xs (r,false)) (gy (.mk 2 us::r))).2≠0 then bw (cZ (cz xs (r,false)) (gy (.mk 2 us::r))).2 else gy r)from by simp[eP,cE,dD,aU,aV,aaE,aaH,dM]];have C:=D (.mk 3 W G I xs) cc (r) oX acN;have Q:=lK xs (r,false) oX;simp only[cG]at C;generalize cz xs (r,false)=r1 at C Q ⊢;obtain⟨⟨O,N⟩,e1⟩:=r1;simp only[aag,aay]at Q;change aR _ _ _ _ (gV (if(cZ ((O,N),e1) ((.mk 2 us::r,false),0)).2≠0 then bw (cZ ((O,N),e1) ((.mk 2 us::r,false),0)).2 else _));have hm:=jF ((O,N),e1) ((.mk 2 us::r,false),0) Q.1 xj;generalize cZ ((O,N),e1) ((.mk 2 us::r,false),0)=rm at hm ⊢;obtain⟨⟨tm,bm⟩,em⟩:=rm;simp only;by_cases K:em≠0;rw[if_pos K,dL K];have en:(em != 0)=true:=(by simpa using K);refine qn func127 call127 λβ hf=>?_;have KB:=fB r ai;exact dw;obtain rfl:em=0:=(by simpa using K);rw[if_neg bn];have hp:=Ql (r);rw[ff];refine qn func127 call127 λβ hf=>?_;have Uk:=fB r ai;exact dw;have A:=lB (.mk T us::r) [2];exact kZ
 ·obtain⟨x0,y0,W,G,I,xs,t,u,rfl,rfl,ht,hu⟩:=Jc hf rfl;clear hf;have ht2:=ht.2;obtain⟨V,J⟩:=t;have hu2:=hu.2;obtain⟨H,E⟩:=u;have hmi:=xy xs (by simp only[aO,bD]at hsz;omega);have zs:=aQ s;cases hb:j8 xs;rotate_left;rw[hb]at hmi;rw[show eP 66 ([x0,y0,.mk 3 W G I xs]) (cE ([x0,y0,.mk 3 W G I xs])) ([.mk V J,.mk H E]) s=bw 5 from by simp[eP,cG,hb],dL bn];exact qdw func127 call127;rw[hb]at hmi;have hst:sL [Ty.mk V J]:=mD ht SS;rw[show eP 66 ([x0,y0,.mk 3 W G I xs]) (cE ([x0,y0,.mk 3 W G I xs])) ([.mk V J,.mk H E]) s=(if(cZ (cz xs ([.mk V J],false)) (gy [.mk H E])).2≠0 then bw (cZ (cz xs ([.mk V J],false)) (gy [.mk H E])).2 else gy (.mk 14 ([.mk V J,.mk H E])::s))from by simp[eP,DK,cG,hb,dD,aU,aV,aaE,aaH,dM]];have C:=D (.mk 3 W G I xs) cc ([.mk V J]) hst acN;have Q:=lK xs ([.mk V J],false) hst;simp only[cG]at C;generalize cz xs ([.mk V J],false)=r1 at C Q ⊢;obtain⟨⟨O,N⟩,e1⟩:=r1;simp only[aag,aay]at Q;change aR _ _ _ _ (gV (if(cZ ((O,N),e1) (([.mk H E],false),0)).2≠0 then bw (cZ ((O,N),e1) (([.mk H E],false),0)).2 else _));have hm:=jF ((O,N),e1) (([.mk H E],false),0) Q.1 xj;generalize cZ ((O,N),e1) (([.mk H E],false),0)=rm at hm ⊢;obtain⟨⟨tm,bm⟩,em⟩:=rm;simp only;by_cases K:em≠0;rw[if_pos K,dL K];have en:(em != 0)=true:=(by simpa using K);exact qdw func127 call127;obtain rfl:em=0:=by simpa using K
  rw[if_neg bn];have hp:=uh (s) [.mk 14 [.mk V J,.mk H E]];rw[ff];refine qn func127 call127 λβ hf=>?_;have ZU:=dB 14 [.mk V J,.mk H E];exact dw
 ·obtain⟨rfl,rfl⟩:=dG hf rfl;clear hf;rcases s with _|⟨⟨T,us⟩,_|⟨⟨U,vs⟩,q⟩⟩
  have A:=lB ([]) [0,14];exact kZ;have A:=lB ([.mk T us]) [0,14];exact kZ;by_cases hU:U=14;subst hU;obtain⟨⟨X,zs⟩,⟨Y,B⟩,rfl,hx,hy⟩:=fE (hs (.mk 14 vs) cc) rfl;have A:=zW (.mk T us :: .mk 14 [.mk X zs,.mk Y B]::q) [0,14];have h1:=gn (.mk T us) (.mk X zs) (by have:=(hs (.mk T us) cc).2;omega);cases g1:cV (.mk T us) (.mk X zs);rw[g1]at h1;exact kZ;rw[g1]at h1;have hp:=uh (q) [.mk Y B];exact SG (l := .mk Y B::q);have A:=lB (.mk T us :: .mk U vs::q) [0,14];exact kZ
 obtain⟨W,G,I,xs,rfl,rfl⟩:=K8 hf rfl;clear hf;rcases s with _|⟨⟨T,us⟩,r⟩
 exact kZ;have A:=Ar (az (.mk T us::r)) 0 DU;have oX:=(qg hs).2;have zr:=aQ r;simp only[aag]at hl;rw[show eP 68 ([.mk 3 W G I xs]) (cE ([.mk 3 W G I xs])) ([]) (.mk T us::r)=(if(cz xs (r,false)).2≠0 then bw (cz xs (r,false)).2 else if(cz xs (r,false)).1.2=true then bw 1 else gy (.mk T us::(cz xs (r,false)).1.1))from by simp[eP,cE,dD,aU,aV,aaE,aaH,dM]];have C:=D (.mk 3 W G I xs) cc (r) oX acN;have Q:=lK xs (r,false) oX;simp only[cG]at C;generalize cz xs (r,false)=r1 at C Q ⊢;obtain⟨⟨O,N⟩,e1⟩:=r1;simp only[aag,aay]at Q;simp only;by_cases K:e1≠0
 ·rw[if_pos K,dL K];have en:(e1 != 0)=true:=by simpa using K
  refine qn func127 call127 λβ hf=>?_;have ZV:=fB r ai;exact dw
 obtain rfl:e1=0:=by simpa using K
 rw[if_neg bn];cases N;rw[if_neg bn];have hp:=uh (O) [.mk T us];rw[ff];refine qn func127 call127 λβ hf=>?_;have acK:=fB r ai;exact dw;rw[if_pos Z,dL bn];refine qn func127 call127 λβ hf=>?_;have aeG:=fB r ai;exact dw
end Go.Proofs
namespace Go.cw
def Es:∀(a b:L UInt8),Lib.compareBytes a b=fm a b
 |[],[]=>rfl
 |[],_::_=>rfl
 |_::_,[]=>rfl
 |x::a,y::b=>by have Y:=Es a b;unfold fm at Y ⊢;simp only[Lib.compareBytes,Op.bytesLess];grind
section
variable {P : Program}{X : Ctx}{ops : Array Oper}{o : Oper}{rest : L Oper}{env : Env}{acc : L Fp}{Q : Env -> St -> L Fp -> Prop}{σ : St}
def bN.SH {fn : Func} {f : FuncId} (hf : P.funcs[f]? = some fn) (hname : (fn.name == "runtime.NumGoroutine") = false) (hb : fn.body.isNone = true) (hn : Extern.findNext fn = none) (he : Extern.find fn = some Extern.BytealgCompare.compare)
  {args:Array Operand} {ts:Array TypeId} (ho:o.op = .call {callee := .value (.func f),args:=args,argTypes:=ts}) {x y:Operand} (hargs:args = #[x,y]) {a b:L UInt8} (hx:aG X env x=some (.c (.str a))) (hy:aG X env y=some (.c (.str b))) :
  bN P X o env σ (.c (.int .i64 (fm a b))) (λσ=>σ) ⟨[],[]⟩:=by
 subst hargs;refine bN.val λde w g act h1 jl cu dr=>?_;have hx':aG X de x=some (.c (.str a)):=by rw[h1 x XH];exact hx
 have hy':aG X de y=some (.c (.str b)):=by rw[h1 y XH];exact hy
 have rx:=cr (a:=act) dr cu hx';have ry:=cr (a:=act) dr cu hy';refine⟨.int .i64 (fm a b),?_,by simp only[aP,Rel]⟩;have hrun:(callFunc f #[act.eval x,act.eval y]).run P w = .ok (.value (.int .i64 (fm a b))) w:=by rw[run_callFunc_extern hf hname hb hn he,rx,ry,Lib.run_compareString];simp;rw[<- Es]
 obtain⟨dst,op,type,pos,after,guard⟩:=o;subst ho;simpa[execOp,resolve,Deferred.ofValue,invoke,Act.eval]using hrun
def ah.SH{fn:Func}{f:FuncId}(kn:L Nat)(hg:cY ops.toList kn env o=some true){args:Array Operand}{ts:Array TypeId}(ho:o.op = .call {callee := .value (.func f),args:=args,argTypes:=ts})(hf:P.funcs[f]?=some fn)
  (hname : (fn.name == "runtime.NumGoroutine") = false) (hb : fn.body.isNone = true) (hn : Extern.findNext fn = none) (he : Extern.find fn = some Extern.BytealgCompare.compare)
  {d:Nat}(hd:o.dst=some d){x y:Operand}(hargs:args = #[x,y]){a b:L UInt8}(hx:aG X env x=some (.c (.str a)))(hy:aG X env y=some (.c (.str b)))
  (k:ah P X ops rest ((d,.c (.int .i64 (fm a b)))::env) σ (⟨[],[]⟩::acc) Q):ah P X ops (o::rest) env σ acc Q :=
 ah.step (dh hg) (bN.SH hf hname hb hn he ho hargs hx hy) (iJ.id _) C1
end
def Zx(k n a:Int)(s:L UInt8)(M:L Vl)(V:L Ty)(code:L Nd):gX (.mk k n a s M V code)=1+s.length/8+iX M:=rfl
def SI:iX []=0:=rfl
def P3(x:Vl)(l:L Vl):iX (x::l)=gX x+iX l:=rfl
mutual
def SJ:∀t:Vl,gX t<=aH t
 |.mk k n a s M V code=>by have:=yP M;simp only[gX,aH];omega
def yP:∀l:L Vl,iX l<=aI l
 |[]=>aaV _
 |t::l=>by have:=SJ t;have:=yP l;simp only[iX,aI];omega
end
end Go.cw
namespace Go.Proofs
open Go.cw
def fG{l:L Vl}{i:Nat}{x:Vl}(h:l[i]?=some x):(aa l)[i]?=some (bA x):=by rw[kV,h];rfl
def xU{l:L Vl}{i:Nat}{x:Vl}(h:l[i]?=some x):decide (((i:Nat):Int)<(((aa l).length:Nat):Int))=true:=dec_lt (by have:=bt h;rw[aB];omega)
def tf{l:L Vl}{i:Nat}(h:i=l.length):decide (((i:Nat):Int)<(((aa l).length:Nat):Int))=false:=Ky (by rw[aB];omega)
def aeg{a b:Nat}(h:a+b<1099511627776):some (AV.c (CV.int .i64 (i64.wrap ((a:Int)+(b:Int)))))=some (AV.c (CV.int .i64 ((a+b:Nat):Int))):=by rw[iB ai ai];rfl
def P4:∀(l r:L Vl),sO rY l r=pS l r
 |[],[]=>rfl
 |[],_::_=>rfl
 |_::_,[]=>rfl
 |x::l,y::r=>by simp[sO,pS,P4 l r]
attribute [local irreducible] AK ah aR bM gX iX
def EW(a b:L UInt8):af 141 [.str a,.str b] (.int .i64 (fm a b)):=by
 refine qn func141 call141 λβ hf=>?_
 repeat' (first|refine qz ?_|refine ah.SH kn Z Z func169 (by kernel_rfl) (by kernel_rfl) (by kernel_rfl) (by kernel_rfl) Z Z Z Z ?_)
 all_goals rfl
def DG(a b:L UInt8):af 112 [.str a,.str b] (.int .i64 (fm a b)):=by have h1:=EW a b;exact qdq func112 call112
def Bg(a b:Int):af 113 [.int .i64 a,.int .i64 b] (.int .i64 (wV a b)):=by unfold wV;by_cases h1:a<b;have u:decide (a<b)=true:=aaX h1;rw[if_pos h1];exact qdq func113 call113;have u:decide (a<b)=false:=aaY h1;rw[if_neg h1];by_cases h2:a>b;have K:decide (a>b)=true:=aaX h2;rw[if_pos h2];exact qdq func113 call113;have K:decide (a>b)=false:=aaY h2;rw[if_neg h2];exact qdq func113 call113
set_option maxHeartbeats 1000000 in
def I6(l:L Vl)(p:Vl->Bool)(f:FuncId)(caps:L CV)(hp:∀x∈l,af f (bA x::caps) (.bool (p x)))(hlen:l.length<=1099511627776) :
  af 98 [.sl 7 (aa l),.sU f caps] (.int .i64 (idxOf p l)):=by
 refine qn func98 call98 λβ hf=>?_;refine AK.Qi hX mixed 300 Z ?_;refine AK.dN (α:=Nat) (λi=>i<=l.length/\∀(j:Nat) x,j<i->l[j]?=some x->p x=false) (λi=>l.length-i)
  (λi=>[(8,.c (.int .i64 i)),(7,.c (.int .i64 (aa l).length)),(0,.c (.sl 7 (aa l))),(1,.c (.sU f caps))]) (λ_=>[]) (λ_=>[]) [] 0
  ⟨ai,by intro j x h;omega⟩ ce trivial trivial Z Z Z ?_
 rintro i ⟨hi,hno⟩ ih
 repeat' (first|refine qz ?_|refine zc ?_ ?_|(intro h;first|(cases h;done)|rw[h]|skip))
 ·have hlt:i<l.length:=by simpa[aB]using h
  obtain⟨⟨a1,a2,a3,a4,a5,a6,a7⟩,hx⟩:∃x,l[i]?=some x:=⟨l[i],by simp[hlt]⟩;refine ah.index hX Z Z Z Z Z Z Z Z Z Z i Z (by rw[kV,hx];rfl) Z ?_
  repeat' (first|refine qz ?_|refine zc ?_ ?_|(intro h;first|(cases h;done)|rw[h]|skip)|refine uC Z (hp ⟨a1,a2,a3,a4,a5,a6,a7⟩ (abz hx)) ?_)
  rw[xx p l i ⟨a1,a2,a3,a4,a5,a6,a7⟩ hx h hno];have EI:=h
  have zV:=ih (i+1) ⟨ai,λj x hj hjx=>by
   by_cases hji:j=i;subst hji;rw[hx]at hjx;simp at hjx;subst hjx;exact EI
   exact hno j x ai hjx⟩ ai
  refine AK.again zV ⟨.inl ?_,.inl Z,.inl Z,.inl Z,trivial⟩ trivial trivial Z Z Z;rw[iB ai ai];rfl
 have hge:l.length<=i:=by simpa[aB]using h
 rw[At p l λj y hy=>hno j y acj hy]
def uL(l:L Vl)(p:Vl->Bool)(f:FuncId)(G:L CV)(B:∀x∈l,af f (bA x::G) (.bool (p x)))(S:l.length<=1099511627776) :
  af 74 [.sl 7 (aa l),.sU f G] (.bool (l.any p)):=by
 refine qn func74 call74 λβ hf=>?_
 repeat' (first|refine qz ?_|refine uC Z (I6 l p f G B S) ?_)
 rw[CD]
def Ib(l r:L Vl)(q:Vl->Vl->Bool)(f:FuncId)(G:L CV)(B:∀x∈l,∀y∈r,af f (bA x::bA y::G) (.bool (q x y)))(S:l.length<=1099511627776) :
  af 86 [.sl 7 (aa l),.sl 7 (aa r),.sU f G] (.bool (sO q l r)):=by
 by_cases I:l.length=r.length
 ·have O:((((aa l).length:Nat):Int) != (((aa r).length:Nat):Int))=false:=by rw[aB,aB,I];simp
  refine qn func86 call86 λβ hf=>?_
  repeat' (first|refine qz ?_|refine zc ?_ ?_|(intro h;first|(cases h;done)|rw[h]|skip))
  refine AK.dN (α:=Nat) (λi=>i<=l.length/\sO q l r=sO q (l.drop i) (r.drop i)) (λi=>l.length-i)
   (λi=>[(17,.c (.int .i64 i)),(16,.c (.int .i64 (aa l).length)),(15,.c (.sl 7 (aa l))),(1,.c (.sl 7 (aa r))),(2,.c (.sU f G))]) (λ_=>[]) (λ_=>[]) [] 0
   ⟨ai,Z⟩ ce trivial trivial Z Z Z ?_
  rintro i ⟨W,H⟩ ih;rcases ie l i W with ⟨x,D,V⟩|Y
  ·have T:=xU D;obtain⟨y,U⟩:∃y,r[i]?=some y:=⟨r[i]' oy,cc⟩;have hq:=B x V y (abz U);rw[dK D,dK U]at H;simp only[sO]at H;obtain⟨Q,a2,A,P,N,M,K⟩:=x;obtain⟨J,E,C,u,b5,b6,b7⟩:=y
   repeat' (first|refine qz ?_|refine zc ?_ ?_|(intro h;first|(cases h;done)|rw[h]|skip)|refine uI Z (i) Z (fG D) Z ?_|refine uI Z (i) Z (fG U) Z ?_|refine uC Z hq ?_)
   rw[H];simp_all;refine AK.again (ih (i+1) ⟨bt D,?_⟩ oy) ⟨.inl (dY oy),.inl Z,.inl Z,.inl Z,.inl Z,trivial⟩ trivial trivial Z Z Z;simp_all
  have T:=tf Y
  repeat' (first|refine qz ?_|refine zc ?_ ?_|(intro h;first|(cases h;done)|rw[h]|skip))
  rw[H,Fz q I Y]
 have O:((((aa l).length:Nat):Int) != (((aa r).length:Nat):Int))=true:=by rw[aB,aB];simp;omega
 rw[Bo q l r I];exact qdq func86 call86
def vL:∀(t:Vl),aH t<=8589934593->af 48 [bA t] (.int .i64 (gX t))
 |.mk k n a s M V code,C=>by
  have Y:=yP M;simp only[aH]at C;have P:=kI M;have T:∀x∈M,af 48 [bA x] (.int .i64 (gX x)):=λx D=>vL x acL;have I:i64.wrap (1+i64.wrap (((s.length:Nat):Int).tdiv 8))=((1+s.length/8:Nat):Int):=by rw[show(8:Int)=((8:Nat):Int)from Z,<- Int.ofNat_tdiv,iB (n:=((s.length/8:Nat):Int)) ai ai,iB ai ai];omega
  rw[Zx];refine qn func48 call48 λβ hf=>?_
  repeat' (first|refine qz ?_|refine zc ?_ ?_|(intro h;first|(cases h;done)|rw[h]|skip))
  refine AK.dN (α:=Nat×Nat) (λz=>z.1<=M.length/\1+s.length/8+iX M=z.2+iX (M.drop z.1)) (λz=>M.length-z.1)
   (λz=>[(14,.c (.int .i64 z.1)),(13,.c (.int .i64 (aa M).length)),(12,.c (.sl 7 (aa M))),(3,.c (.int .i64 z.2))]) (λ_=>[]) (λ_=>[]) [] (0,1+s.length/8)
   ⟨ai,by rw[ahg]⟩ ⟨.inl Z,.inl Z,.inl Z,.inl (aeM (λz=>some (AV.c (CV.int .i64 z))) I),trivial⟩ trivial trivial Z Z Z ?_
  rintro⟨i,m⟩ ⟨U,H⟩ ih;simp only at U H;rcases ie M i U with ⟨x,D,W⟩|O
  ·have S:=xU D;have hq:=T x W;rw[dK D,P3]at H;have h2:=bt D;generalize gX x=q at hq H;obtain⟨J,N,u,K,G,E,B⟩:=x
   repeat' (first|refine qz ?_|refine zc ?_ ?_|(intro h;first|(cases h;done)|rw[h]|skip)|refine uI Z (i) Z (fG D) Z ?_|refine uC Z hq ?_)
   refine AK.again (ih (i+1,m+q) ⟨h2,by show 1+s.length/8+iX M=m+q+iX (M.drop (i+1));omega⟩ fo) ⟨.inl (dY ai),.inl Z,.inl Z,.inl (aeg (a:=m) (b:=q) ai),trivial⟩ trivial trivial Z Z Z
  have S:=tf O;have Q:1+s.length/8+iX M=m:=by rw[H,O,aeT,SI,agb]
  clear ih
  repeat' (first|refine qz ?_|refine zc ?_ ?_|(intro h;first|(cases h;done)|rw[h]|skip))
  show(_:CV)=_;rw[Q]
termination_by t=>SizeOf.sizeOf t
decreasing_by
 have:=aeQ D;simp at this ⊢;omega
def wW:∀(t u:Nd),bD t<=1099511627776->af 88 [aM t,aM u] (.bool (qA t u))
 |.mk W a2 A P M,.mk Y V H U us,C=>by
  simp only[bD]at C;have T:=gu M;have hq:=xq M us qA 88 [] (λx D y _=>wW x y aaM) ai;rw[Fy]at hq;refine qn func88 call88 λβ hf=>?_
  repeat' (first|refine qz ?_|refine zc ?_ ?_|(intro h;first|(cases h;done)|rw[h]|skip)|refine uC Z hq ?_)
  all_goals
   show(_:CV)=_;clear hf hq;simp_all [qA]
termination_by t=>SizeOf.sizeOf t
decreasing_by
 have:=aeQ D;simp at this ⊢;omega
end Go.Proofs
namespace Go.Proofs
open Go.cw
attribute [local irreducible] AK ah aR
def xg(n:Int):Bool:=decide (n >= -1152921504606846976)&&decide (n<=1152921504606846976)
def pg(n:Int):Int×Int:=if xg n=true then(if n<0 then -n else n,0)else(0,2)
def m7(n:Int):Int×Int:=if xg n=true then(n,0)else(0,11)
def wg(a b:Int):Int×Int:=if xg a=true/\xg b=true then m7 (a+b)else(0,2)
def lH(a b:Int):Int×Int:=if xg a=true/\xg b=true then m7 (a-b)else(0,2)
def ud(a b:Int):Int×Int:=if xg a=true/\xg b=true then m7 (a*b)else(0,2)
def iH(a b:Int):Int×Int×Int:=if xg a=true/\xg b=true then(if b=0 then(0,0,6)else(a/b,a%b,0))else(0,0,2)
def Mz{a b q r:Int}(h:r+b*q=a)(C:0<=r)(U:0<b/\r<b\/b<0/\r < -b):a/b=q/\a%b=r:=by
 rcases U with ⟨U,h1⟩|⟨U,h1⟩
 exact(Int.ediv_emod_unique U).2 ⟨h,C,h1⟩;have h2:r+(-b)*(-q)=a:=by rw[Int.neg_mul_neg];exact h
 obtain⟨K,Y⟩:=(Int.ediv_emod_unique (by omega:0 < -b)).2 ⟨h2,C,h1⟩;rw[Int.ediv_neg]at K;rw[Int.emod_neg]at Y;exact⟨ai,Y⟩
def SK(a b:Int)(U:b≠0):a.tmod b+b*a.tdiv b=a/\(0<b -> -b<a.tmod b/\a.tmod b<b)/\(b<0->b<a.tmod b/\a.tmod b < -b) /\
  ((0<=a->0<=a.tmod b)/\(a<=0->a.tmod b<=0))/\(0<=a -> -a<=a.tdiv b/\a.tdiv b<=a)/\(a<=0->a<=a.tdiv b/\a.tdiv b <= -a):=by
 refine⟨Int.tmod_add_mul_tdiv a b,λh=>?_,λh=>?_,⟨λh=>Int.tmod_nonneg b h,λh=>?_⟩,λh=>?_,λh=>?_⟩;refine⟨?_,ahP a h⟩;have:=ahP (-a) h;rw[Int.neg_tmod]at this;omega;have h1:=ahP a (by omega:0 < -b);have h2:=ahP (-a) (by omega:0 < -b);rw[Int.neg_tmod]at h2;rw[Int.tmod_neg]at h1 h2;omega;have:=Int.tmod_nonneg b (by omega:0 <= -a);rw[Int.neg_tmod]at this;omega;have:=aiw a b;omega;have:=aiw a b;omega
def nB{n:Int}:xg n=true ↔ -1152921504606846976<=n/\n<=1152921504606846976:=by simp[xg]
def kr(n:Int):af 92 [.int .i64 n] (.bool (xg n)):=by
 refine qn func92 call92 λβ hf=>?_
 repeat' (first|refine sz ?_|refine zc ?_ ?_|(intro h;first|(cases h;done)|rw[h]|skip))
 all_goals (simp_all [xg];try omega)
abbrev two(x:Int×Int):CV := .eF [.int .i64 x.1,.int .i64 x.2]
abbrev three(x:Int×Int×Int):CV := .eF [.int .i64 x.1,.int .i64 x.2.1,.int .i64 x.2.2]
def Yo{a b c d:Int}(h:a=c)(H:b=d):CV.eF [.int .i64 a,.int .i64 b] = .eF [.int .i64 c,.int .i64 d]:=by rw[h,H]
def Ic{a b c d e f:Int}(h:a=d)(H:b=e)(Y:c=f):CV.eF [.int .i64 a,.int .i64 b,.int .i64 c] = .eF [.int .i64 d,.int .i64 e,.int .i64 f]:=by rw[h,H,Y]
def Dt(n:Int):af 159 [.int .i64 n] (two (pg n)):=by
 refine qn func159 call159 λβ hf=>?_
 repeat' (first|refine sz ?_|refine zc ?_ ?_|(intro h;first|(cases h;done)|rw[h]|skip)|refine uC Z (kr n) ?_)
 simp_all [pg,two]
 ·have h1:xg n=true:=by simp_all
  have h2:=nB.1 h1;rw[iB ai ai];simp_all [pg,two]
 simp_all [pg,two];omega
def Et(n:Int):af 179 [.int .i64 n] (two (m7 n)):=by
 refine qn func179 call179 λβ hf=>?_
 repeat' (first|refine sz ?_|refine zc ?_ ?_|(intro h;first|(cases h;done)|rw[h]|skip)|refine uC Z (kr n) ?_)
 all_goals simp_all [m7,two]
def Ka(a b:Int):af 161 [.int .i64 a,.int .i64 b] (two (wg a b)):=by
 refine qn func161 call161 λβ hf=>?_
 repeat' (first|refine sz ?_|refine zc ?_ ?_|(intro h;first|(cases h;done)|rw[h]|skip)|refine uC Z (kr a) ?_|refine uC Z (kr b) ?_|refine uC Z (Et _) ?_)
 all_goals try (simp_all [wg,two];done)
 rename_i h1;obtain⟨h1,h2⟩:xg a=true/\xg b=true:=by simp_all
 have K:=nB.1 h1;have Y:=nB.1 h2;rw[iB ai ai];simp[wg,two,h1,h2]
def zI(a b:Int):af 163 [.int .i64 a,.int .i64 b] (two (lH a b)):=by
 refine qn func163 call163 λβ hf=>?_
 repeat' (first|refine sz ?_|refine zc ?_ ?_|(intro h;first|(cases h;done)|rw[h]|skip)|refine uC Z (kr a) ?_|refine uC Z (kr b) ?_|refine uC Z (Et _) ?_)
 all_goals try (simp_all [lH,two];done)
 rename_i h1;obtain⟨h1,h2⟩:xg a=true/\xg b=true:=by simp_all
 have K:=nB.1 h1;have Y:=nB.1 h2;rw[iB ai ai];simp[lH,two,h1,h2]
def wu(a b:Int):af 181 [.int .i64 a,.int .i64 b] (three (iH a b)):=by
 refine qn func181 call181 λβ hf=>?_
 repeat' (first|refine sz ?_|refine zc ?_ ?_|(intro h;first|(cases h;done)|rw[h]|skip)|refine uC Z (kr a) ?_|refine uC Z (kr b) ?_|(first|refine ah.quo hX kn Z Z Z Z Z Z Z (by simp_all) ?_|refine ah.rem hX kn Z Z Z Z Z Z Z (by simp_all) ?_))
 all_goals try (simp_all [iH,three];done)
 all_goals
  obtain⟨h1,h2,K⟩:xg a=true/\xg b=true/\b≠0:=by simp_all
  have W:=nB.1 h1;have M:=nB.1 h2;obtain⟨E,N,H,⟨B,J⟩,e6,e7⟩:=SK a b K;have V : -1152921504606846976<=a.tdiv b/\a.tdiv b<=1152921504606846976:=by omega
  rw[show iH a b=(a/b,a%b,0)from by simp[iH,h1,h2,K]]
 ·have C:a.tmod b<0:=by simp_all
  have I:b>0:=by simp_all
  obtain⟨O,Y⟩:=Mz (a:=a) (b:=b) (q:=a.tdiv b-1) (r:=a.tmod b+b) (by rw[Int.mul_sub];omega) ai ai;rw[iB (n:=a.tdiv b) ai ai,iB ai ai,iB ai ai];exact Ic O.symm Y.symm Z
 ·have C:a.tmod b<0:=by simp_all
  have I:b<0:=by simp_all;omega
  obtain⟨O,Y⟩:=Mz (a:=a) (b:=b) (q:=a.tdiv b+1) (r:=a.tmod b-b) (by rw[Int.mul_add];omega) ai ai;rw[iB (n:=a.tdiv b) ai ai,iB ai ai,iB ai ai];exact Ic O.symm Y.symm Z
 have C:a.tmod b>=0:=by simp_all
 obtain⟨O,Y⟩:=Mz (a:=a) (b:=b) (q:=a.tdiv b) (r:=a.tmod b) ai ai ai;rw[iB ai ai];exact Ic O.symm Y.symm Z
end Go.Proofs
namespace Go.Proofs
open Go.cw
def P5{k n a:Int}{s:L UInt8}{M:L Vl}{V:L Ty}{code:L Nd}{t:Ty}(h:bE (.mk k n a s M V code) t=true)(U:iC t=false) :
  k=dD t/\(k=9->M.length<=1/\∀x∈M,bE x (aU t 0)=true/\iC (aU t 0)=false)/\(k=11->M.length=2/\dA M (aV t)=true/\(aV t).length=2/\oR (aV t)=false) /\
   (k=12->0<=n/\n<=1/\M.length=1/\∀x∈M,bE x (aU t n.toNat)=true/\iC (aU t n.toNat)=false):=by
 obtain⟨h1,h2,K⟩:=rC h;have W:¬(k≠dD t\/cA (.mk k n a s M V code)=false\/200<s.length):=by simp_all
 simp only[bE,if_neg W]at h;obtain⟨T,Y⟩:=jD U;rw[<- h1]at T;refine⟨h1,?_,?_,?_⟩
 ·rintro rfl;simp at h;have I:(aV t).length=1:=by(have:arity 9=1:=by decide);omega
  refine⟨h.1.2,λx D=>⟨(fQ _ _).1 h.2 x D,dO Y (mJ ai)⟩⟩
 ·rintro rfl;simp at h;have I:(aV t).length=2:=by(have:arity 11=2:=by decide);omega
  simp_all
 rintro rfl;simp at h;have I:(aV t).length=2:=by(have:arity 12=2:=by decide);omega
 refine⟨h.1.1,h.1.2.1,h.1.2.2,λx D=>⟨(fQ _ _).1 h.2 x D,dO Y (mJ ai)⟩⟩
def aji(n a:Int)(s:L UInt8)(M:L Vl)(V:L Ty)(code:L Nd)(k' T B:Int)(O:L UInt8)(U:L Vl)(Y:L Ty)(W:L Nd):dS (.mk 6 n a s M V code) (.mk k' T B O U Y W)=fm s O:=rfl
def ajj(n a:Int)(s:L UInt8)(M:L Vl)(V:L Ty)(code:L Nd)(k' T B:Int)(O:L UInt8)(U:L Vl)(Y:L Ty)(W:L Nd):dS (.mk 9 n a s M V code) (.mk k' T B O U Y W)=if wV M.length U.length=0 then jY M U else wV M.length U.length:=rfl
def agE(n a:Int)(s:L UInt8)(M:L Vl)(V:L Ty)(code:L Nd)(k' T B:Int)(O:L UInt8)(U:L Vl)(Y:L Ty)(W:L Nd):dS (.mk 11 n a s M V code) (.mk k' T B O U Y W)=jY M U:=rfl
def agF(n a:Int)(s:L UInt8)(M:L Vl)(V:L Ty)(code:L Nd)(k' T B:Int)(O:L UInt8)(U:L Vl)(Y:L Ty)(W:L Nd):dS (.mk 12 n a s M V code) (.mk k' T B O U Y W)=if wV n T=0 then jY M U else wV n T:=rfl
def ajk{k:Int}(h1:k≠6)(h2:k≠9)(K:k≠11)(S:k≠12)(n a:Int)(s:L UInt8)(M:L Vl)(V:L Ty)(code:L Nd)(k' T B:Int)(O:L UInt8)(U:L Vl)(Y:L Ty)(W:L Nd):dS (.mk k n a s M V code) (.mk k' T B O U Y W)=wV n T:=by simp only[dS,if_neg h1,if_neg h2,if_neg K,if_neg S]
def Kv(x:Vl)(l:L Vl)(y:Vl)(r:L Vl):jY (x::l) (y::r)=if dS x y=0 then jY l r else dS x y:=rfl
def P6(r:L Vl):jY [] r=0:=by cases r<;>rfl
attribute [local irreducible] AK ah aR bM dS jY bE aL dA rY pS cV gP qA lI wV fm cA
def x9:∀(v w:Vl),aH v<=1099511627776->af 67 [bA v,bA w] (.bool (rY v w))
 |.mk k n a s M V code,.mk k' T B O U Y W,N=>by
  simp only[aH]at N;have Q:=kI M;have P:=kG V;have S:=gu code;have h1:=Ib M U rY 67 [] (λx D y _=>x9 x y acL) ai;have h2:=rL V Y cV 50 [] (λx D y _=>gn x y (by have:=cI D;omega)) ai;have K:=xq code W qA 88 [] (λx D y _=>wW x y aaM) ai;rw[P4]at h1;rw[Bp]at h2;rw[Fy]at K;have I:rY (.mk k n a s M V code) (.mk k' T B O U Y W)=(k==k'&&n==T&&a==B&&s==O&&pS M U&&gP V Y&&lI code W):=by simp only[rY]
  rw[I];generalize pS M U=b1 at h1;generalize gP V Y=b2 at h2;generalize lI code W=b3 at K;clear I;refine qn func67 call67 λβ hf=>?_
  repeat' (first|refine qz ?_|refine zc ?_ ?_|(intro h;first|(cases h;done)|rw[h]|skip)|refine uC Z h1 ?_|refine uC Z h2 ?_|refine uC Z K ?_)
  all_goals
   show(_:CV)=_;clear hf h1 h2 K;simp_all
termination_by t=>SizeOf.sizeOf t
decreasing_by
 have:=aeQ D;simp at this ⊢;omega
def ug(n:Int):af 93 [.int .i64 n] (.bool (decide (0<=n)&&decide (n<12))):=by
 refine qn func93 call93 λβ hf=>?_
 repeat' (first|refine qz ?_|refine zc ?_ ?_|(intro h;first|(cases h;done)|rw[h]|skip))
 all_goals
  show(_:CV)=_;clear hf;simp_all
def P7(k n a:Int)(s:L UInt8)(M:L Vl)(V:L Ty)(code:L Nd):cA (.mk k n a s M V code)=(if k=15 then decide (V.length=0/\code.length=0/\s=[])
  else if k=8 then decide (V.length=1/\code.length=0/\s=[])
  else if k=14 then decide (V.length=2/\a=0/\n=0/\s=[]/\M.length=0)
  else if k=6 then decide (V.length=0/\code.length=0/\a=0/\n=0/\M.length=0)
  else decide (V.length=0/\code.length=0/\a=0/\s=[])):=by simp only[cA]
def P8(v:Vl):af 91 [bA v] (.bool (cA v)):=by
 obtain⟨k,n,a,s,M,V,code⟩:=v;rw[P7];by_cases u:k=15
 ·subst u;refine qn func91 call91 λβ hf=>?_
  repeat' (first|refine qz ?_|refine zc ?_ ?_|(intro h;first|(cases h;done)|rw[h]|skip))
  all_goals
   show(_:CV)=_;clear hf;simp only[aQ,aZ,aB,ahE,ahw]at *;rcases V with _|⟨_,_|⟨_,_|⟨_,_⟩⟩⟩<;>simp_all<;>(try omega)<;>rcases s with _|⟨_,_⟩<;>rcases M with _|⟨_,_⟩<;>rcases code with _|⟨_,_⟩<;>simp_all<;>omega
 have E:(k==15)=false:=by simpa using u
 by_cases K:k=8
 ·subst K;refine qn func91 call91 λβ hf=>?_
  repeat' (first|refine qz ?_|refine zc ?_ ?_|(intro h;first|(cases h;done)|rw[h]|skip))
  all_goals
   show(_:CV)=_;clear hf;simp only[aQ,aZ,aB,ahE,ahw]at *;rcases V with _|⟨_,_|⟨_,_|⟨_,_⟩⟩⟩<;>simp_all<;>(try omega)<;>rcases s with _|⟨_,_⟩<;>rcases M with _|⟨_,_⟩<;>rcases code with _|⟨_,_⟩<;>simp_all<;>omega
 have N:(k==8)=false:=by simpa using K
 by_cases T:k=14
 ·subst T;refine qn func91 call91 λβ hf=>?_
  repeat' (first|refine qz ?_|refine zc ?_ ?_|(intro h;first|(cases h;done)|rw[h]|skip))
  all_goals
   show(_:CV)=_;clear hf;simp only[aQ,aZ,aB,ahE,ahw]at *;rcases V with _|⟨_,_|⟨_,_|⟨_,_⟩⟩⟩<;>simp_all<;>(try omega)<;>rcases s with _|⟨_,_⟩<;>rcases M with _|⟨_,_⟩<;>rcases code with _|⟨_,_⟩<;>simp_all<;>omega
 have H:(k==14)=false:=by simpa using T
 by_cases c4:k=6
 ·subst c4;refine qn func91 call91 λβ hf=>?_
  repeat' (first|refine qz ?_|refine zc ?_ ?_|(intro h;first|(cases h;done)|rw[h]|skip))
  all_goals
   show(_:CV)=_;clear hf;simp only[aQ,aZ,aB,ahE,ahw]at *;rcases V with _|⟨_,_|⟨_,_|⟨_,_⟩⟩⟩<;>simp_all<;>(try omega)<;>rcases s with _|⟨_,_⟩<;>rcases M with _|⟨_,_⟩<;>rcases code with _|⟨_,_⟩<;>simp_all<;>omega
 have C:(k==6)=false:=by simpa using c4
 refine qn func91 call91 λβ hf=>?_
 repeat' (first|refine qz ?_|refine zc ?_ ?_|(intro h;first|(cases h;done)|rw[h]|skip))
 all_goals
  show(_:CV)=_;clear hf;simp only[aQ,aZ,aB,ahE,ahw]at *;rcases V with _|⟨_,_|⟨_,_|⟨_,_⟩⟩⟩<;>simp_all<;>(try omega)<;>rcases s with _|⟨_,_⟩<;>rcases M with _|⟨_,_⟩<;>rcases code with _|⟨_,_⟩<;>simp_all<;>omega
def SL{l:L Vl}(h:l.length=1):∃x,l=[x]:=by
 match l,h with
 |[x],_=>exact⟨x,Z⟩
def abQ{l:L Vl}(h:l.length=2):∃x y,l=[x,y]:=by
 match l,h with
 |[x,y],_=>exact⟨x,y,Z⟩
def DW{l:L Ty}(h:l.length=2):∃x y,l=[x,y]:=by
 match l,h with
 |[x,y],_=>exact⟨x,y,Z⟩
def MA(x y:Vl):jY [x] [y]=dS x y:=by rw[Kv,P6];split<;>simp_all
def abR(x J y Y:Vl):jY [x,J] [y,Y]=if dS x y=0 then dS J Y else dS x y:=by rw[Kv,MA]
def qe:∀(v w:Vl)(t:Ty),iC t=false->bE v t=true->bE w t=true->aH v<=1099511627776->af 95 [bA v,bA w] (.int .i64 (dS v w))
 |.mk k n a s M types code,.mk k' N a' s' U K code',t,hb,hv,hw,hsz=>by
  simp only[aH]at hsz;obtain⟨p0,p9,Q,p12⟩:=P5 hv hb;obtain⟨q0,q9,O,q12⟩:=P5 hw hb;obtain rfl:k'=k:=by rw[p0,q0]
  clear hv hw;have T:∀x∈M,∀y u,iC u=false->bE x u=true->bE y u=true->af 95 [bA x,bA y] (.int .i64 (dS x y)):=λx D y u h1 h2 h3=>qe x y u h1 h2 h3 acL;by_cases c1:k'=6;subst c1;rw[aji];have h1:=DG s s';exact qdq func95 call95;by_cases c2:k'=9
  ·subst c2;rw[ajj];have h1:=Bg (((aa M).length:Nat):Int) (((aa U).length:Nat):Int);by_cases I:wV M.length U.length=0
   ·rw[if_pos I];rw[aB,aB,I,<- aB,<- aB U]at h1;have Bi:=oW.1 I;by_cases G:M.length=0;have e5:((((aa M).length:Nat):Int)==0)=true:=(by rw[aB];simpa using G);rw[List.length_eq_zero_iff.1 G,P6];rw[List.length_eq_zero_iff.1 G]at h1 e5;exact qdq func95 call95;have e5:((((aa M).length:Nat):Int)==0)=false:=(by rw[aB];simpa using G);obtain⟨x,Y⟩:=SL (show M.length=1 by have:=(p9 rfl).1;omega);obtain⟨y,J⟩:=SL (show U.length=1 by have:=(q9 rfl).1;omega);have D:=(p9 Z).2 x adk;have q:=(q9 Z).2 y (by rw[J];simp);have h2:=T x adk y (aU t 0) D.2 D.1 q.1;have g1:M[0]?=some x:=by rw[Y];rfl
    have W:U[0]?=some y:=(by rw[J];rfl);have H:jY M U=dS x y:=(by rw[Y,J,MA]);rw[H];obtain⟨E,C,B,A,x5,x6,x7⟩:=x;obtain⟨y1,y2,y3,y4,y5,y6,y7⟩:=y;refine qn func95 call95 λβ hf=>?_;have As:=fG g1;have KB:=fG W;exact dq
   rw[if_neg I];have e1:(wV M.length U.length != 0)=true:=(by simpa using I);rw[<- aB,<- aB U]at e1 ⊢;exact qdq func95 call95
  by_cases c3:k'=11
  ·subst c3;rw[agE];obtain⟨m1,P,m3,V⟩:=Q rfl;obtain⟨r1,S,_,_⟩:=O rfl;obtain⟨x,x',Y⟩:=abQ m1;obtain⟨y,y',J⟩:=abQ r1;obtain⟨u,u',hU⟩:=DW m3;rw[Y,hU]at P;rw[J,hU]at S;rw[hU]at V;simp only[dA,aaN]at P S;simp only[oR,afV]at V;have h1:=T x adk y u V.1 P.1 S.1;have h2:=T x' adk y' u' V.2.1 P.2.1 S.2.1;have g1:M[0]?=some x:=(by rw[Y];rfl);have W:U[0]?=some y:=(by rw[J];rfl);have g3:M[1]?=some x':=(by rw[Y];rfl);have g4:U[1]?=some y':=(by rw[J];rfl);have H:jY M U=if dS x y=0 then dS x' y' else dS x y:=(by rw[Y,J,abR])
   rw[H];clear P S H Y J Q O;obtain⟨E,C,B,A,x5,x6,x7⟩:=x;obtain⟨y1,y2,y3,y4,y5,y6,y7⟩:=y;obtain⟨z1,z2,z3,z4,z5,z6,z7⟩:=x';obtain⟨w1,w2,w3,w4,w5,w6,w7⟩:=y';by_cases I:dS (.mk E C B A x5 x6 x7) (.mk y1 y2 y3 y4 y5 y6 y7)=0;rw[if_pos I];rw[I]at h1;refine qn func95 call95 λβ hf=>?_;have Uk:=fG g1;have ZU:=fG W;have ZV:=fG g3;have acK:=fG g4;exact dq;rw[if_neg I];have e1:(dS (.mk E C B A x5 x6 x7) (.mk y1 y2 y3 y4 y5 y6 y7) != 0)=true:=(by simpa using I);refine qn func95 call95 λβ hf=>?_;have aeG:=fG g1;have ahn:=fG W;have aho:=fG g3;have aeH:=fG g4;exact dq
  by_cases c4:k'=12;subst c4;rw[agF];have h1:=Bg n N;obtain⟨m1,P,m3,V⟩:=p12 rfl;obtain⟨r1,S,r3,r4⟩:=q12 rfl;obtain⟨x,Y⟩:=SL m3;obtain⟨y,J⟩:=SL r3;by_cases I:wV n N=0;rw[if_pos I];rw[I]at h1;have hnn:=oW.1 I;have D:=V x adk;have q:=r4 y (by rw[J];simp);rw[<- hnn]at q;have h2:=T x adk y (aU t n.toNat) D.2 D.1 q.1;have g1:M[0]?=some x:=(by rw[Y];rfl);have W:U[0]?=some y:=(by rw[J];rfl);have H:jY M U=dS x y:=(by rw[Y,J,MA]);rw[H];obtain⟨E,C,B,A,x5,x6,x7⟩:=x;obtain⟨y1,y2,y3,y4,y5,y6,y7⟩:=y;refine qn func95 call95 λβ hf=>?_;have aeI:=fG g1;have aeJ:=fG W;exact dq;rw[if_neg I];have e1:(wV n N != 0)=true:=(by simpa using I);exact qdq func95 call95;rw[ajk c1 c2 c3 c4];have e1:(k'==6)=false:=by simpa using c1
  have e2:(k'==9)=false:=by simpa using c2
  have H:(k'==11)=false:=by simpa using c3
  have e4:(k'==12)=false:=by simpa using c4
  have h1:=Bg n N;exact qdq func95 call95
termination_by v=>SizeOf.sizeOf v
decreasing_by
 have:=aeQ D;simp at this ⊢;omega
end Go.Proofs
