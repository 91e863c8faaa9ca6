/- What items of package check answers. -/
import Derived.Test.YtdnpapgijbhofaaGreatDoorChk3Rt
import Derived.Test.YtdnpapgijbhofaaGreatDoorVParRt
import Derived.Laws.Externs
import Derived.Lib.Bytealg
import Derived.Test.YtdnpapgijbhofaaGreatDoorKind5Rt
open Go.IntKind
open Go.Proofs.Tryz
set_option linter.defProp false
set_option maxHeartbeats 0
set_option linter.unusedVariables false
set_option linter.unusedSimpArgs false
set_option maxHeartbeats 0
set_option maxRecDepth 100000
namespace Go.Proofs
open Go.cB
attribute [local irreducible] AK ai aR bW aO eJ gT fN iP bg bH eX bS iB gZ
def gW{a:L CV}{r:CR}(h:r=aX 5:=by first|(simp[gK,cq,aG,aK,aai,aaj,cU];done)|(simp[*,gK,cq,aG,aK,aai,aaj,cU];done)) (q:af 126 a (.fG [.agg [.any,.any],.int .i64 5]):=by
  refine qn func126 call126 λβ hf=>?_
  exact dw):af 126 a (fL r):=by rw[h,cT cc];exact q
def sA{a:L CV}{r:CR}{l:L Ty}(h:r=eB l:=by first|(simp[gK,cq,aG,aK,aai,aaj,cU];done)|(simp[*,gK,cq,aG,aK,aai,aaj,cU];done)) (q:af 126 a (.fG [.agg [.sl 2 (aj l),.bool false],.int .i64 0]):=by
  refine qn func126 call126 λβ hf=>?_
  exact dw):af 126 a (fL r):=by rw[h];exact q
def GF(P nN:Int)(nS:L UInt8)(args:L Nd)(types s:L Ty)(hP:59<=P/\P<=63)(hf:br P args=some types)(C:qj s)(hl:s.length<=9999999990)(hsz:aM args<=8589934593)
  (B:∀a∈args,∀s':L Ty,qj s'->s'.length<=s.length+1->af 59 [.sl 5 (aD (cy a)),.sl 2 (aj s')] (tu (bH (cy a) (s',false)))) :
  af 126 [aS (.mk 2 nN P nS args),.sl 2 (aj types),.sl 2 (aj s)] (fL (gK P (bS args) types s)):=by
 have O9:P=59\/P=60\/P=61\/P=62\/P=63:=by omega
 clear hP;rcases O9 with rfl|rfl|rfl|rfl|rfl
 ·obtain⟨rfl,rfl⟩:=cM hf rfl;clear hf;rcases s with _|⟨⟨T,us⟩,r⟩
  have S:=jz ([]) [6];have D:=jz ([]) [10];have G:=jz ([]) [13];exact gW;by_cases Q:T=6;subst Q;have S:=wu (.mk 6 us::r) [6];have A:=ru (r) [.mk 4 []];have y0:=cC 4;exact sA (l := .mk 4 []::r);by_cases N:T=10;subst N;have S:=jz (.mk 10 us::r) [6];have D:=wu (.mk 10 us::r) [10];have A:=ru (r) [.mk 4 []];have y0:=cC 4;exact sA (l := .mk 4 []::r);by_cases WQ:T=13;subst WQ;have S:=jz (.mk 13 us::r) [6];have D:=jz (.mk 13 us::r) [10];have G:=wu (.mk 13 us::r) [13];have A:=ru (r) [.mk 4 []];have y0:=cC 4;exact sA (l := .mk 4 []::r);have S:=jz (.mk T us::r) [6];have D:=jz (.mk T us::r) [10];have G:=jz (.mk T us::r) [13];exact gW
 ·obtain⟨n1,p1,S1,xs,rfl,rfl⟩:=GZ hf rfl;clear hf;rcases s with _|⟨⟨T,us⟩,r⟩
  have S:=jz ([]) [10];have D:=jz ([]) [13];exact gW;by_cases Q:T=10;subst Q;simp only[aaa]at hl;have zr:=aL r;have oG:=(nO C).2;obtain⟨⟨X,K⟩,rfl,O⟩:=cO (C (.mk 10 us) c9) rfl;have S:=wu (.mk 10 [.mk X K]::r) [10];have w1:=B (.mk 3 n1 p1 S1 xs) c9 (.mk X K::r) (kz O oG) ek;have M:=jI xs (.mk X K::r,false) (kz O oG);rw[show gK 60 (bS ([.mk 3 n1 p1 S1 xs])) ([]) (.mk 10 [.mk X K]::r)=cn (bH xs (.mk X K::r,false)) (eB (r))from by simp[gK,cq,aG,aK,aai,aaj,cU,bS]];simp only[cy]at w1;generalize bH xs (.mk X K::r,false)=r1 at w1 M ⊢;obtain⟨⟨H,p⟩,e1⟩:=r1;simp only[aaa]at M;change aR _ _ _ _ (fL (cn ((H,p),e1) ((r,false),0)));have hm:=ij ((H,p),e1) ((r,false),0) M.1 sk;generalize cn ((H,p),e1) ((r,false),0)=rm at hm ⊢;obtain⟨⟨tm,bm⟩,em⟩:=rm;refine qn func126 call126 λβ hf=>?_;have wq:=eG r bn;exact dw;by_cases N:T=13;subst N;simp only[aaa]at hl;have zr:=aL r;have oG:=(nO C).2;have O:lE (.mk 11 us):=yh (C (.mk 13 us) c9) Z;obtain⟨⟨X,K⟩,⟨Y,J⟩,rfl,hx1,hy1⟩:=cJ O rfl;have S:=jz (.mk 13 [.mk X K,.mk Y J]::r) [10];have D:=wu (.mk 13 [.mk X K,.mk Y J]::r) [13];have w1:=B (.mk 3 n1 p1 S1 xs) c9 (.mk 11 [.mk X K,.mk Y J]::r) (kz O oG) ek;have M:=jI xs (.mk 11 [.mk X K,.mk Y J]::r,false) (kz O oG);rw[show gK 60 (bS ([.mk 3 n1 p1 S1 xs])) ([]) (.mk 13 [.mk X K,.mk Y J]::r)=cn (bH xs (.mk 11 [.mk X K,.mk Y J]::r,false)) (eB (r))from by simp[gK,cq,aG,aK,aai,aaj,cU,bS]];simp only[cy]at w1;generalize bH xs (.mk 11 [.mk X K,.mk Y J]::r,false)=r1 at w1 M ⊢;obtain⟨⟨H,p⟩,e1⟩:=r1;simp only[aaa]at M;change aR _ _ _ _ (fL (cn ((H,p),e1) ((r,false),0)));have hm:=ij ((H,p),e1) ((r,false),0) M.1 sk;generalize cn ((H,p),e1) ((r,false),0)=rm at hm ⊢;obtain⟨⟨tm,bm⟩,em⟩:=rm;refine qn func126 call126 λβ hf=>?_;have Eu:=dx 11 [.mk X K,.mk Y J];have LL:=eG r bn;exact dw;have S:=jz (.mk T us::r) [10];have D:=jz (.mk T us::r) [13];exact gW
 obtain⟨x0,y0,t,u,rfl,rfl,ht,hu⟩:=R6 hf rfl;clear hf;have V3:=ht.2;obtain⟨V,ws⟩:=t;have Vg:=hu.2;obtain⟨V2,NQ⟩:=u;have h2:=kr (.mk V ws) bn;cases I:eJ (.mk V ws);rw[I]at h2;exact gW;rw[I]at h2;have A:=ru (s) [.mk 13 [.mk V ws,.mk V2 NQ]];have y0:=dx 13 [.mk V ws,.mk V2 NQ];exact sA (l := .mk 13 [.mk V ws,.mk V2 NQ]::s)
 ·obtain⟨rfl,rfl⟩:=cM hf rfl;clear hf;rcases s with _|⟨⟨T,us⟩,_|⟨⟨U,vs⟩,q⟩⟩
  have E:=jz ([]) [0,13];exact gW;have E:=jz ([.mk T us]) [0,13];exact gW;by_cases hU:U=13;subst hU;obtain⟨⟨X,K⟩,⟨Y,J⟩,rfl,O,hy⟩:=cJ (C (.mk 13 vs) c9) rfl;have E:=wu (.mk T us :: .mk 13 [.mk X K,.mk Y J]::q) [0,13];have hy2:=hy.2;have h1:=gJ (.mk T us) (.mk X K) gp;have h2:=sG (.mk Y J) bn;cases g1:cw (.mk T us) (.mk X K);rw[g1]at h1;exact gW;cases I:gT (.mk Y J);rw[g1]at h1;rw[I]at h2;exact gW;rw[g1]at h1;rw[I]at h2;have A:=ru (q) [.mk 9 [.mk Y J]];have y0:=dx 9 [.mk Y J];exact sA (l := .mk 9 [.mk Y J]::q);have E:=jz (.mk T us :: .mk U vs::q) [0,13];exact gW
 obtain⟨rfl,rfl⟩:=cM hf rfl;clear hf;rcases s with _|⟨⟨T,us⟩,_|⟨⟨U,vs⟩,_|⟨⟨W,qs⟩,q⟩⟩⟩
 have E:=jz ([]) [0,9,13];exact gW;have E:=jz ([.mk T us]) [0,9,13];exact gW;have E:=jz ([.mk T us,.mk U vs]) [0,9,13];exact gW;by_cases hU:U=9/\W=13;obtain⟨rfl,rfl⟩:=hU;obtain⟨⟨X,K⟩,⟨Y,J⟩,rfl,O,hy⟩:=cJ (C (.mk 13 qs) c9) rfl;obtain⟨⟨Zz,os⟩,rfl,hz⟩:=cO (C (.mk 9 vs) c9) rfl;have E:=wu (.mk T us :: .mk 9 [.mk Zz os] :: .mk 13 [.mk X K,.mk Y J]::q) [0,9,13];have Ug:=hz.2;have h1:=gJ (.mk T us) (.mk X K) gp;have h2:=gJ (.mk Zz os) (.mk Y J) bn;cases g1:cw (.mk T us) (.mk X K);rw[g1]at h1;exact gW;cases I:cw (.mk Zz os) (.mk Y J);rw[g1]at h1;rw[I]at h2;exact gW;rw[g1]at h1;rw[I]at h2;have A:=LH (.mk 13 [.mk X K,.mk Y J]::q);exact sA (l := .mk 13 [.mk X K,.mk Y J]::q);have WQ:U=9->¬W=13:=λa b=>hU ⟨a,b⟩;have E:=jz (.mk T us :: .mk U vs :: .mk W qs::q) [0,9,13];have YF:¬(U=9/\W=13/\cw (.mk T us) (qs.getD 0 iY)=true/\cw (vs.getD 0 iY) (qs.getD 1 iY)=true):=λh=>hU ⟨h.1,h.2.1⟩;rw[show gK 63 (bS ([])) ([]) (.mk T us :: .mk U vs :: .mk W qs::q)=aX 5 from by unfold gK;rw[if_neg cc,if_neg cc,if_neg cc,if_neg cc,if_pos rfl];exact if_neg YF,cT cc];exact qdw func126 call126
end Go.Proofs
namespace Go.Proofs
open Go.cB
attribute [local irreducible] AK ai aR bW aO eJ gT fN iP bg bH eX bS iB gZ
def jo{a:L CV}{r:CR}(h:r=aX 5:=by first|(simp[dB,cq,aG,aK,aai,aaj,cU];done)|(simp[*,dB,cq,aG,aK,aai,aaj,cU];done)) (q:af 127 a (.fG [.agg [.any,.any],.int .i64 5]):=by
  refine qn func127 call127 λβ hf=>?_
  exact dw):af 127 a (fL r):=by rw[h,cT cc];exact q
def NR{a:L CV}{r:CR}{l:L Ty}(h:r=eB l:=by first|(simp[dB,cq,aG,aK,aai,aaj,cU];done)|(simp[*,dB,cq,aG,aK,aai,aaj,cU];done)) (q:af 127 a (.fG [.agg [.sl 2 (aj l),.bool false],.int .i64 0]):=by
  refine qn func127 call127 λβ hf=>?_
  exact dw):af 127 a (fL r):=by rw[h];exact q
def Cv(P nN:Int)(nS:L UInt8)(args:L Nd)(types s:L Ty)(hP:64<=P/\P<=68)(hf:br P args=some types)(G:qj s)(hl:s.length<=9999999990)(hsz:aM args<=8589934593)
  (B:∀a∈args,∀s':L Ty,qj s'->s'.length<=s.length+1->af 59 [.sl 5 (aD (cy a)),.sl 2 (aj s')] (tu (bH (cy a) (s',false)))) :
  af 127 [aS (.mk 2 nN P nS args),.sl 2 (aj types),.sl 2 (aj s)] (fL (dB P args (bS args) types s)):=by
 have O9:P=64\/P=65\/P=66\/P=67\/P=68:=by omega
 clear hP;rcases O9 with rfl|rfl|rfl|rfl|rfl
 ·obtain⟨K,W,J,xs,n2,p2,S2,I,rfl,rfl⟩:=yc hf rfl;clear hf;rcases s with _|⟨⟨T,us⟩,r⟩
  have E:=jz ([]) [2];exact jo;by_cases hT:T=2;subst hT;simp only[aaa]at hl;have zr:=aL r;have H:=(nO G).2;have E:=wu (.mk 2 us::r) [2];have N:=B (.mk 3 K W J xs) c9 (r) H ek;have C:=jI xs (r,false) H;have w2:=B (.mk 3 n2 p2 S2 I) c9 (r) H ek;have o2:=jI I (r,false) H;rw[show dB 64 ([.mk 3 K W J xs,.mk 3 n2 p2 S2 I]) (bS ([.mk 3 K W J xs,.mk 3 n2 p2 S2 I])) ([]) (.mk 2 us::r)=cn (bH xs (r,false)) (bH I (r,false))from by simp[dB,cq,aG,aK,aai,aaj,cU,bS]];simp only[cy]at N;generalize bH xs (r,false)=r1 at N C ⊢;obtain⟨⟨S,p⟩,e1⟩:=r1;simp only[aaa]at C;simp only[cy]at w2;generalize bH I (r,false)=r2 at w2 o2 ⊢;obtain⟨⟨t2,b2⟩,e2⟩:=r2;simp only[aaa]at o2;have D:=ij ((S,p),e1) ((t2,b2),e2) C.1 sk;generalize cn ((S,p),e1) ((t2,b2),e2)=rm at D ⊢;obtain⟨⟨tm,bm⟩,em⟩:=rm;refine qn func127 call127 λβ hf=>?_;have wq:=eG r bn;exact dw;have E:=jz (.mk T us::r) [2];exact jo
 ·obtain⟨K,W,J,xs,rfl,rfl⟩:=GZ hf rfl;clear hf;rcases s with _|⟨⟨T,us⟩,r⟩
  have E:=jz ([]) [2];exact jo;by_cases hT:T=2;subst hT;simp only[aaa]at hl;have zr:=aL r;have H:=(nO G).2;have E:=wu (.mk 2 us::r) [2];rw[show dB 65 ([.mk 3 K W J xs]) (bS ([.mk 3 K W J xs])) ([]) (.mk 2 us::r)=(if(cn (bH xs (r,false)) (eB (.mk 2 us::r))).2≠0 then aX (cn (bH xs (r,false)) (eB (.mk 2 us::r))).2 else eB r)from by simp[dB,bS,cq,aG,aK,aai,aaj,cU]];have N:=B (.mk 3 K W J xs) c9 (r) H Xr;have C:=jI xs (r,false) H;simp only[cy]at N;generalize bH xs (r,false)=r1 at N C ⊢;obtain⟨⟨S,p⟩,e1⟩:=r1;simp only[aaa,aab]at C;change aR _ _ _ _ (fL (if(cn ((S,p),e1) ((.mk 2 us::r,false),0)).2≠0 then aX (cn ((S,p),e1) ((.mk 2 us::r,false),0)).2 else _));have D:=ij ((S,p),e1) ((.mk 2 us::r,false),0) C.1 sk;generalize cn ((S,p),e1) ((.mk 2 us::r,false),0)=rm at D ⊢;obtain⟨⟨tm,bm⟩,em⟩:=rm;simp only;by_cases A:em≠0;rw[if_pos A,cT A];have en:(em != 0)=true:=(by simpa using A);refine qn func127 call127 λβ hf=>?_;have Eu:=eG r bn;exact dw;obtain rfl:em=0:=(by simpa using A);rw[if_neg cc];have hp:=LH (r);rw[ep];refine qn func127 call127 λβ hf=>?_;have LL:=eG r bn;exact dw;have E:=jz (.mk T us::r) [2];exact jo
 ·obtain⟨x0,y0,K,W,J,xs,t,u,rfl,rfl,ht,hu⟩:=Fa hf rfl;clear hf;have V3:=ht.2;obtain⟨V,Q⟩:=t;have Vg:=hu.2;obtain⟨O,M⟩:=u;have Yl:=uc xs (by simp only[aM,bR]at hsz;omega);have zs:=aL s;cases hb:iB xs;rotate_left;rw[hb]at Yl;rw[show dB 66 ([x0,y0,.mk 3 K W J xs]) (bS ([x0,y0,.mk 3 K W J xs])) ([.mk V Q,.mk O M]) s=aX 5 from by simp[dB,cy,hb],cT cc];exact qdw func127 call127;rw[hb]at Yl;have hst:qj [Ty.mk V Q]:=kz ht N3;rw[show dB 66 ([x0,y0,.mk 3 K W J xs]) (bS ([x0,y0,.mk 3 K W J xs])) ([.mk V Q,.mk O M]) s=(if(cn (bH xs ([.mk V Q],false)) (eB [.mk O M])).2≠0 then aX (cn (bH xs ([.mk V Q],false)) (eB [.mk O M])).2 else eB (.mk 14 ([.mk V Q,.mk O M])::s))from by simp[dB,AQ,cy,hb,cq,aG,aK,aai,aaj,cU]];have N:=B (.mk 3 K W J xs) c9 ([.mk V Q]) hst Xr;have C:=jI xs ([.mk V Q],false) hst;simp only[cy]at N;generalize bH xs ([.mk V Q],false)=r1 at N C ⊢;obtain⟨⟨S,p⟩,e1⟩:=r1;simp only[aaa,aab]at C;change aR _ _ _ _ (fL (if(cn ((S,p),e1) (([.mk O M],false),0)).2≠0 then aX (cn ((S,p),e1) (([.mk O M],false),0)).2 else _));have D:=ij ((S,p),e1) (([.mk O M],false),0) C.1 sk;generalize cn ((S,p),e1) (([.mk O M],false),0)=rm at D ⊢;obtain⟨⟨tm,bm⟩,em⟩:=rm;simp only;by_cases A:em≠0;rw[if_pos A,cT A];have en:(em != 0)=true:=(by simpa using A);exact qdw func127 call127;obtain rfl:em=0:=by simpa using A
  rw[if_neg cc];have hp:=ru (s) [.mk 14 [.mk V Q,.mk O M]];rw[ep];refine qn func127 call127 λβ hf=>?_;have QV:=dx 14 [.mk V Q,.mk O M];exact dw
 ·obtain⟨rfl,rfl⟩:=cM hf rfl;clear hf;rcases s with _|⟨⟨T,us⟩,_|⟨⟨U,vs⟩,q⟩⟩
  have E:=jz ([]) [0,14];exact jo;have E:=jz ([.mk T us]) [0,14];exact jo;by_cases hU:U=14;subst hU;obtain⟨⟨X,zs⟩,⟨Y,I⟩,rfl,hx,hy⟩:=cJ (G (.mk 14 vs) c9) rfl;have E:=wu (.mk T us :: .mk 14 [.mk X zs,.mk Y I]::q) [0,14];have h1:=gJ (.mk T us) (.mk X zs) (by have:=(G (.mk T us) c9).2;omega);cases g1:cw (.mk T us) (.mk X zs);rw[g1]at h1;exact jo;rw[g1]at h1;have hp:=ru (q) [.mk Y I];exact NR (l := .mk Y I::q);have E:=jz (.mk T us :: .mk U vs::q) [0,14];exact jo
 obtain⟨K,W,J,xs,rfl,rfl⟩:=GZ hf rfl;clear hf;rcases s with _|⟨⟨T,us⟩,r⟩
 exact jo;have E:=wS (aj (.mk T us::r)) 0 tF;have H:=(nO G).2;have zr:=aL r;simp only[aaa]at hl;rw[show dB 68 ([.mk 3 K W J xs]) (bS ([.mk 3 K W J xs])) ([]) (.mk T us::r)=(if(bH xs (r,false)).2≠0 then aX (bH xs (r,false)).2 else if(bH xs (r,false)).1.2=true then aX 1 else eB (.mk T us::(bH xs (r,false)).1.1))from by simp[dB,bS,cq,aG,aK,aai,aaj,cU]];have N:=B (.mk 3 K W J xs) c9 (r) H Xr;have C:=jI xs (r,false) H;simp only[cy]at N;generalize bH xs (r,false)=r1 at N C ⊢;obtain⟨⟨S,p⟩,e1⟩:=r1;simp only[aaa,aab]at C;simp only;by_cases A:e1≠0
 ·rw[if_pos A,cT A];have en:(e1 != 0)=true:=by simpa using A
  refine qn func127 call127 λβ hf=>?_;have QW:=eG r bn;exact dw
 obtain rfl:e1=0:=by simpa using A
 rw[if_neg cc];cases p;rw[if_neg cc];have hp:=ru (S) [.mk T us];rw[ep];refine qn func127 call127 λβ hf=>?_;have Uy:=eG r bn;exact dw;rw[if_pos Z,cT cc];refine qn func127 call127 λβ hf=>?_;have YB:=eG r bn;exact dw
end Go.Proofs
namespace Go.cB
def Bu:∀(a b:L UInt8),Lib.compareBytes a b=eA a b
 |[],[]=>rfl
 |[],_::_=>rfl
 |_::_,[]=>rfl
 |x::a,y::b=>by have S:=Bu a b;unfold eA at S ⊢;simp only[Lib.compareBytes,Op.bytesLess];grind
section
variable {P : Program}{X : Ctx}{ops : Array Oper}{o : Oper}{rest : L Oper}{env : Env}{acc : L Fp}{Q : Env -> St -> L Fp -> Prop}{σ : St}
def bI.NS {fn : Func} {f : FuncId} (hf : P.funcs[f]? = some fn) (hname : (fn.name == "runtime.NumGoroutine") = false) (hb : fn.body.isNone = true) (hn : Extern.findNext fn = none) (he : Extern.find fn = some Extern.BytealgCompare.compare)
  {args:Array Operand} {ts:Array TypeId} (ho:o.op = .call {callee := .value (.func f),args:=args,argTypes:=ts}) {x y:Operand} (hargs:args = #[x,y]) {a b:L UInt8} (hx:aH X env x=some (.c (.str a))) (hy:aH X env y=some (.c (.str b))) :
  bI P X o env σ (.c (.int .i64 (eA a b))) (λσ=>σ) ⟨[],[]⟩:=by
 subst hargs;refine bI.val λcH w g act h1 hD bZ cX=>?_;have hx':aH X cH x=some (.c (.str a)):=by rw[h1 x Pv];exact hx
 have hy':aH X cH y=some (.c (.str b)):=by rw[h1 y Pv];exact hy
 have rx:=bV (a:=act) cX bZ hx';have ry:=bV (a:=act) cX bZ hy';refine⟨.int .i64 (eA a b),?_,by simp only[aP,Rel]⟩;have hrun:(callFunc f #[act.eval x,act.eval y]).run P w = .ok (.value (.int .i64 (eA a b))) w:=by rw[run_callFunc_extern hf hname hb hn he,rx,ry,Lib.run_compareString];simp;rw[<- Bu]
 obtain⟨dst,op,type,pos,after,guard⟩:=o;subst ho;simpa[execOp,resolve,Deferred.ofValue,invoke,Act.eval]using hrun
def ai.NS{fn:Func}{f:FuncId}(kn:L Nat)(hg:cP ops.toList kn env o=some true){args:Array Operand}{ts:Array TypeId}(ho:o.op = .call {callee := .value (.func f),args:=args,argTypes:=ts})(hf:P.funcs[f]?=some fn)
  (hname : (fn.name == "runtime.NumGoroutine") = false) (hb : fn.body.isNone = true) (hn : Extern.findNext fn = none) (he : Extern.find fn = some Extern.BytealgCompare.compare)
  {d:Nat}(hd:o.dst=some d){x y:Operand}(hargs:args = #[x,y]){a b:L UInt8}(hx:aH X env x=some (.c (.str a)))(hy:aH X env y=some (.c (.str b)))
  (k:ai P X ops rest ((d,.c (.int .i64 (eA a b)))::env) σ (⟨[],[]⟩::acc) Q):ai P X ops (o::rest) env σ acc Q :=
 ai.step (cZ hg) (bI.NS hf hname hb hn he ho hargs hx hy) (gE.id _) th
end
def Uc(k n a:Int)(s:L UInt8)(args:L Vl)(types:L Ty)(H:L Nd):lp (.mk k n a s args types H)=1+s.length/8+iU args:=rfl
def NT:iU []=0:=rfl
def Lp(x:Vl)(l:L Vl):iU (x::l)=lp x+iU l:=rfl
mutual
def NU:∀t:Vl,lp t<=aE t
 |.mk k n a s args types H=>by have:=vk args;simp only[lp,aE];omega
def vk:∀l:L Vl,iU l<=aB l
 |[]=>aal _
 |t::l=>by have:=NU t;have:=vk l;simp only[iU,aB];omega
end
end Go.cB
namespace Go.Proofs
open Go.cB
def cY{l:L Vl}{i:Nat}{x:Vl}(h:l[i]?=some x):(aa l)[i]?=some (bA x):=by rw[jl,h];rfl
def mh{l:L Vl}{i:Nat}{x:Vl}(h:l[i]?=some x):decide (((i:Nat):Int)<(((aa l).length:Nat):Int))=true:=dec_lt (by have:=bh h;rw[az];omega)
def jK{l:L Vl}{i:Nat}(h:i=l.length):decide (((i:Nat):Int)<(((aa l).length:Nat):Int))=false:=Gs (by rw[az];omega)
def Ye{a b:Nat}(h:a+b<1099511627776):some (AV.c (CV.int .i64 (i64.wrap ((a:Int)+(b:Int)))))=some (AV.c (CV.int .i64 ((a+b:Nat):Int))):=by rw[gM bn bn];rfl
attribute [local irreducible] AK ai aR bW lp iU
def BO(a b:L UInt8):af 141 [.str a,.str b] (.int .i64 (eA a b)):=by
 refine qn func141 call141 λβ hf=>?_
 repeat' (first|refine qg ?_|refine ai.NS kn Z Z func169 (by kernel_rfl) (by kernel_rfl) (by kernel_rfl) (by kernel_rfl) Z Z Z Z ?_)
 all_goals rfl
def AL(a b:L UInt8):af 112 [.str a,.str b] (.int .i64 (eA a b)):=by have h1:=BO a b;exact qdq func112 call112
def xU(a b:Int):af 113 [.int .i64 a,.int .i64 b] (.int .i64 (tN a b)):=by unfold tN;by_cases h1:a<b;have p:decide (a<b)=true:=aam h1;rw[if_pos h1];exact qdq func113 call113;have p:decide (a<b)=false:=aan h1;rw[if_neg h1];by_cases h2:a>b;have M:decide (a>b)=true:=aam h2;rw[if_pos h2];exact qdq func113 call113;have M:decide (a>b)=false:=aan h2;rw[if_neg h2];exact qdq func113 call113
set_option maxHeartbeats 1000000 in
def E4(l:L Vl)(p:Vl->Bool)(f:FuncId)(caps:L CV)(hp:∀x∈l,af f (bA x::caps) (.bool (p x)))(hlen:l.length<=1099511627776) :
  af 98 [.sl 7 (aa l),.tO f caps] (.int .i64 (idxOf p l)):=by
 refine qn func98 call98 λβ hf=>?_;refine AK.LF hX mixed 300 Z ?_;refine AK.dI (α:=Nat) (λi=>i<=l.length/\∀(j:Nat) x,j<i->l[j]?=some x->p x=false) (λi=>l.length-i)
  (λi=>[(8,.c (.int .i64 i)),(7,.c (.int .i64 (aa l).length)),(0,.c (.sl 7 (aa l))),(1,.c (.tO f caps))]) (λ_=>[]) (λ_=>[]) [] 0
  ⟨bn,by intro j x h;omega⟩ ce trivial trivial Z Z Z ?_
 rintro i ⟨hi,hno⟩ ih
 repeat' (first|refine qg ?_|refine zc ?_ ?_|(intro h;first|(cases h;done)|rw[h]|skip))
 ·have hlt:i<l.length:=by simpa[az]using h
  obtain⟨⟨a1,a2,a3,a4,a5,a6,a7⟩,hx⟩:∃x,l[i]?=some x:=⟨l[i],by simp[hlt]⟩;refine ai.index hX Z Z Z Z Z Z Z Z Z Z i Z (by rw[jl,hx];rfl) Z ?_
  repeat' (first|refine qg ?_|refine zc ?_ ?_|(intro h;first|(cases h;done)|rw[h]|skip)|refine uC Z (hp ⟨a1,a2,a3,a4,a5,a6,a7⟩ (aap hx)) ?_)
  rw[ua p l i ⟨a1,a2,a3,a4,a5,a6,a7⟩ hx h hno];have BF:=h
  have Yy:=ih (i+1) ⟨bn,λj x hj U9=>by
   by_cases hji:j=i;subst hji;rw[hx]at U9;simp at U9;subst U9;exact BF
   exact hno j x bn U9⟩ bn
  refine AK.again Yy ⟨.inl ?_,.inl Z,.inl Z,.inl Z,trivial⟩ trivial trivial Z Z Z;rw[gM bn bn];rfl
 have hge:l.length<=i:=by simpa[az]using h
 rw[wU p l λj y hy=>hno j y UZ hy]
def rN(l:L Vl)(p:Vl->Bool)(f:FuncId)(U:L CV)(D:∀x∈l,af f (bA x::U) (.bool (p x)))(T:l.length<=1099511627776) :
  af 74 [.sl 7 (aa l),.tO f U] (.bool (l.any p)):=by
 refine qn func74 call74 λβ hf=>?_
 repeat' (first|refine qg ?_|refine uC Z (E4 l p f U D T) ?_)
 rw[zB]
def DG:∀(t:Vl),aE t<=8589934593->af 48 [bA t] (.int .i64 (lp t))
 |.mk k n a s args types H,p=>by
  have V:=vk args;simp only[aE]at p;have S:=ga args;have Y:∀x∈args,af 48 [bA x] (.int .i64 (lp x)):=λx O=>DG x Xi;have J:i64.wrap (1+i64.wrap (((s.length:Nat):Int).tdiv 8))=((1+s.length/8:Nat):Int):=by rw[show(8:Int)=((8:Nat):Int)from Z,<- Int.ofNat_tdiv,gM (n:=((s.length/8:Nat):Int)) bn bn,gM bn bn];omega
  rw[Uc];refine qn func48 call48 λβ hf=>?_
  repeat' (first|refine qg ?_|refine zc ?_ ?_|(intro h;first|(cases h;done)|rw[h]|skip))
  refine AK.dI (α:=Nat×Nat) (λz=>z.1<=args.length/\1+s.length/8+iU args=z.2+iU (args.drop z.1)) (λz=>args.length-z.1)
   (λz=>[(14,.c (.int .i64 z.1)),(13,.c (.int .i64 (aa args).length)),(12,.c (.sl 7 (aa args))),(3,.c (.int .i64 z.2))]) (λ_=>[]) (λ_=>[]) [] (0,1+s.length/8)
   ⟨bn,by rw[ack]⟩ ⟨.inl Z,.inl Z,.inl Z,.inl (aaZ (λz=>some (AV.c (CV.int .i64 z))) J),trivial⟩ trivial trivial Z Z Z ?_
  rintro⟨i,m⟩ ⟨W,U⟩ ih;simp only at W U;rcases eI args i W with ⟨x,O,T⟩|A
  ·have D:=mh O;have hq:=Y x T;rw[cQ O,Lp]at U;have h2:=bh O;generalize lp x=q at hq U;obtain⟨P,B,Q,N,E,K,C⟩:=x
   repeat' (first|refine qg ?_|refine zc ?_ ?_|(intro h;first|(cases h;done)|rw[h]|skip)|refine uI Z (i) Z (cY O) Z ?_|refine uC Z hq ?_)
   refine AK.again (ih (i+1,m+q) ⟨h2,by show 1+s.length/8+iU args=m+q+iU (args.drop (i+1));omega⟩ fe) ⟨.inl (ff bn),.inl Z,.inl Z,.inl (Ye (a:=m) (b:=q) bn),trivial⟩ trivial trivial Z Z Z
  have D:=jK A;have M:1+s.length/8+iU args=m:=by rw[U,A,aaW,NT,abI]
  clear ih
  repeat' (first|refine qg ?_|refine zc ?_ ?_|(intro h;first|(cases h;done)|rw[h]|skip))
  show(_:CV)=_;rw[M]
termination_by t=>SizeOf.sizeOf t
decreasing_by
 have:=abg O;simp at this ⊢;omega
end Go.Proofs
namespace Go.Proofs
open Go.cB
def Lq{k n a:Int}{s:L UInt8}{args:L Vl}{types:L Ty}{H:L Nd}{t:Ty}(h:bz (.mk k n a s args types H) t=true)(A:fY t=false) :
  k=cq t/\(k=9->args.length<=1/\∀x∈args,bz x (aG t 0)=true/\fY (aG t 0)=false)/\(k=11->args.length=2/\cL args (aK t)=true/\(aK t).length=2/\mJ (aK t)=false) /\
   (k=12->0<=n/\n<=1/\args.length=1/\∀x∈args,bz x (aG t n.toNat)=true/\fY (aG t n.toNat)=false):=by
 obtain⟨h1,h2,S⟩:=oS h;have Y:¬(k≠cq t\/bX (.mk k n a s args types H)=false\/200<s.length):=by simp_all
 simp only[bz,if_neg Y]at h;obtain⟨U,W⟩:=gH A;rw[<- h1]at U;refine⟨h1,?_,?_,?_⟩
 ·rintro rfl;simp at h;have V:(aK t).length=1:=by(have:arity 9=1:=by decide);omega
  refine⟨h.1.2,λx O=>⟨(dM _ _).1 h.2 x O,cN W (kG bn)⟩⟩
 ·rintro rfl;simp at h;have V:(aK t).length=2:=by(have:arity 11=2:=by decide);omega
  simp_all
 rintro rfl;simp at h;have V:(aK t).length=2:=by(have:arity 12=2:=by decide);omega
 refine⟨h.1.1,h.1.2.1,h.1.2.2,λx O=>⟨(dM _ _).1 h.2 x O,cN W (kG bn)⟩⟩
def acH(n a:Int)(s:L UInt8)(args:L Vl)(types:L Ty)(H:L Nd)(k' K p:Int)(A:L UInt8)(M:L Vl)(Y:L Ty)(W:L Nd):de (.mk 6 n a s args types H) (.mk k' K p A M Y W)=eA s A:=rfl
def acI(n a:Int)(s:L UInt8)(args:L Vl)(types:L Ty)(H:L Nd)(k' K p:Int)(A:L UInt8)(M:L Vl)(Y:L Ty)(W:L Nd):de (.mk 9 n a s args types H) (.mk k' K p A M Y W)=if tN args.length M.length=0 then iL args M else tN args.length M.length:=rfl
def aae(n a:Int)(s:L UInt8)(args:L Vl)(types:L Ty)(H:L Nd)(k' K p:Int)(A:L UInt8)(M:L Vl)(Y:L Ty)(W:L Nd):de (.mk 11 n a s args types H) (.mk k' K p A M Y W)=iL args M:=rfl
def aaf(n a:Int)(s:L UInt8)(args:L Vl)(types:L Ty)(H:L Nd)(k' K p:Int)(A:L UInt8)(M:L Vl)(Y:L Ty)(W:L Nd):de (.mk 12 n a s args types H) (.mk k' K p A M Y W)=if tN n K=0 then iL args M else tN n K:=rfl
def acJ{k:Int}(h1:k≠6)(h2:k≠9)(U:k≠11)(P:k≠12)(n a:Int)(s:L UInt8)(args:L Vl)(types:L Ty)(H:L Nd)(k' K p:Int)(A:L UInt8)(M:L Vl)(Y:L Ty)(W:L Nd):de (.mk k n a s args types H) (.mk k' K p A M Y W)=tN n K:=by simp only[de,if_neg h1,if_neg h2,if_neg U,if_neg P]
def Gp(x:Vl)(l:L Vl)(y:Vl)(r:L Vl):iL (x::l) (y::r)=if de x y=0 then iL l r else de x y:=rfl
def Lr(r:L Vl):iL [] r=0:=by cases r<;>rfl
attribute [local irreducible] AK ai aR bW de iL bz aJ cL O4 IP cw gO Cs zj tN eA bX
def rq(n:Int):af 93 [.int .i64 n] (.bool (decide (0<=n)&&decide (n<12))):=by
 refine qn func93 call93 λβ hf=>?_
 repeat' (first|refine qg ?_|refine zc ?_ ?_|(intro h;first|(cases h;done)|rw[h]|skip))
 all_goals
  show(_:CV)=_;clear hf;simp_all
def Ls(k n a:Int)(s:L UInt8)(args:L Vl)(types:L Ty)(H:L Nd):bX (.mk k n a s args types H)=(if k=15 then decide (types.length=0/\H.length=0/\s=[])
  else if k=8 then decide (types.length=1/\H.length=0/\s=[])
  else if k=14 then decide (types.length=2/\a=0/\n=0/\s=[]/\args.length=0)
  else if k=6 then decide (types.length=0/\H.length=0/\a=0/\n=0/\args.length=0)
  else decide (types.length=0/\H.length=0/\a=0/\s=[])):=by simp only[bX]
def Lt(v:Vl):af 91 [bA v] (.bool (bX v)):=by
 obtain⟨k,n,a,s,args,types,H⟩:=v;rw[Ls];by_cases p:k=15
 ·subst p;refine qn func91 call91 λβ hf=>?_
  repeat' (first|refine qg ?_|refine zc ?_ ?_|(intro h;first|(cases h;done)|rw[h]|skip))
  all_goals
   show(_:CV)=_;clear hf;simp only[aL,bf,az,adm,ade]at *;rcases types with _|⟨_,_|⟨_,_|⟨_,_⟩⟩⟩<;>simp_all<;>(try omega)<;>rcases s with _|⟨_,_⟩<;>rcases args with _|⟨_,_⟩<;>rcases H with _|⟨_,_⟩<;>simp_all<;>omega
 have B:(k==15)=false:=by simpa using p
 by_cases M:k=8
 ·subst M;refine qn func91 call91 λβ hf=>?_
  repeat' (first|refine qg ?_|refine zc ?_ ?_|(intro h;first|(cases h;done)|rw[h]|skip))
  all_goals
   show(_:CV)=_;clear hf;simp only[aL,bf,az,adm,ade]at *;rcases types with _|⟨_,_|⟨_,_|⟨_,_⟩⟩⟩<;>simp_all<;>(try omega)<;>rcases s with _|⟨_,_⟩<;>rcases args with _|⟨_,_⟩<;>rcases H with _|⟨_,_⟩<;>simp_all<;>omega
 have W:(k==8)=false:=by simpa using M
 by_cases Y:k=14
 ·subst Y;refine qn func91 call91 λβ hf=>?_
  repeat' (first|refine qg ?_|refine zc ?_ ?_|(intro h;first|(cases h;done)|rw[h]|skip))
  all_goals
   show(_:CV)=_;clear hf;simp only[aL,bf,az,adm,ade]at *;rcases types with _|⟨_,_|⟨_,_|⟨_,_⟩⟩⟩<;>simp_all<;>(try omega)<;>rcases s with _|⟨_,_⟩<;>rcases args with _|⟨_,_⟩<;>rcases H with _|⟨_,_⟩<;>simp_all<;>omega
 have U:(k==14)=false:=by simpa using Y
 by_cases c4:k=6
 ·subst c4;refine qn func91 call91 λβ hf=>?_
  repeat' (first|refine qg ?_|refine zc ?_ ?_|(intro h;first|(cases h;done)|rw[h]|skip))
  all_goals
   show(_:CV)=_;clear hf;simp only[aL,bf,az,adm,ade]at *;rcases types with _|⟨_,_|⟨_,_|⟨_,_⟩⟩⟩<;>simp_all<;>(try omega)<;>rcases s with _|⟨_,_⟩<;>rcases args with _|⟨_,_⟩<;>rcases H with _|⟨_,_⟩<;>simp_all<;>omega
 have V:(k==6)=false:=by simpa using c4
 refine qn func91 call91 λβ hf=>?_
 repeat' (first|refine qg ?_|refine zc ?_ ?_|(intro h;first|(cases h;done)|rw[h]|skip))
 all_goals
  show(_:CV)=_;clear hf;simp only[aL,bf,az,adm,ade]at *;rcases types with _|⟨_,_|⟨_,_|⟨_,_⟩⟩⟩<;>simp_all<;>(try omega)<;>rcases s with _|⟨_,_⟩<;>rcases args with _|⟨_,_⟩<;>rcases H with _|⟨_,_⟩<;>simp_all<;>omega
def NV{l:L Vl}(h:l.length=1):∃x,l=[x]:=by
 match l,h with
 |[x],_=>exact⟨x,Z⟩
def VX{l:L Vl}(h:l.length=2):∃x y,l=[x,y]:=by
 match l,h with
 |[x,y],_=>exact⟨x,y,Z⟩
def AW{l:L Ty}(h:l.length=2):∃x y,l=[x,y]:=by
 match l,h with
 |[x,y],_=>exact⟨x,y,Z⟩
def IS(x y:Vl):iL [x] [y]=de x y:=by rw[Gp,Lr];split<;>simp_all
def VY(x u y Y:Vl):iL [x,u] [y,Y]=if de x y=0 then de u Y else de x y:=by rw[Gp,IS]
def nK:∀(v w:Vl)(t:Ty),fY t=false->bz v t=true->bz w t=true->aE v<=1099511627776->af 95 [bA v,bA w] (.int .i64 (de v w))
 |.mk k n a s args types code,.mk k' T a' s' M S code',t,hb,hv,hw,hsz=>by
  simp only[aE]at hsz;obtain⟨p0,p9,Wq,p12⟩:=Lq hv hb;obtain⟨q0,q9,V,q12⟩:=Lq hw hb;obtain rfl:k'=k:=by rw[p0,q0]
  clear hv hw;have O:∀x∈args,∀y u,fY u=false->bz x u=true->bz y u=true->af 95 [bA x,bA y] (.int .i64 (de x y)):=λx N y u h1 h2 h3=>nK x y u h1 h2 h3 R7;by_cases c1:k'=6;subst c1;rw[acH];have h1:=AL s s';exact qdq func95 call95;by_cases c2:k'=9
  ·subst c2;rw[acI];have h1:=xU (((aa args).length:Nat):Int) (((aa M).length:Nat):Int);by_cases q:tN args.length M.length=0
   ·rw[if_pos q];rw[az,az,q,<- az,<- az M]at h1;have tV:=mP.1 q;by_cases B:args.length=0;have e5:((((aa args).length:Nat):Int)==0)=true:=(by rw[az];simpa using B);rw[List.length_eq_zero_iff.1 B,Lr];rw[List.length_eq_zero_iff.1 B]at h1 e5;exact qdq func95 call95;have e5:((((aa args).length:Nat):Int)==0)=false:=(by rw[az];simpa using B);obtain⟨x,I⟩:=NV (show args.length=1 by have:=(p9 rfl).1;omega);obtain⟨y,Q⟩:=NV (show M.length=1 by have:=(q9 rfl).1;omega);have N:=(p9 Z).2 x aas;have G:=(q9 Z).2 y (by rw[Q];simp);have h2:=O x aas y (aG t 0) N.2 N.1 G.1;have g1:args[0]?=some x:=by rw[I];rfl
    have Y:M[0]?=some y:=(by rw[Q];rfl);have U:iL args M=de x y:=(by rw[I,Q,IS]);rw[U];obtain⟨J,H,D,E,C,A,p⟩:=x;obtain⟨y1,y2,y3,y4,y5,y6,y7⟩:=y;refine qn func95 call95 λβ hf=>?_;have wq:=cY g1;have Eu:=cY Y;exact dq
   rw[if_neg q];have e1:(tN args.length M.length != 0)=true:=(by simpa using q);rw[<- az,<- az M]at e1 ⊢;exact qdq func95 call95
  by_cases c3:k'=11
  ·subst c3;rw[aae];obtain⟨m1,P,m3,W⟩:=Wq rfl;obtain⟨r1,K,_,_⟩:=V rfl;obtain⟨x,x',I⟩:=VX m1;obtain⟨y,y',Q⟩:=VX r1;obtain⟨u,u',hU⟩:=AW m3;rw[I,hU]at P;rw[Q,hU]at K;rw[hU]at W;simp only[cL,aak]at P K;simp only[mJ,abW]at W;have h1:=O x aas y u W.1 P.1 K.1;have h2:=O x' aas y' u' W.2.1 P.2.1 K.2.1;have g1:args[0]?=some x:=(by rw[I];rfl);have Y:M[0]?=some y:=(by rw[Q];rfl);have g3:args[1]?=some x':=(by rw[I];rfl);have g4:M[1]?=some y':=(by rw[Q];rfl);have U:iL args M=if de x y=0 then de x' y' else de x y:=(by rw[I,Q,VY])
   rw[U];clear P K U I Q Wq V;obtain⟨J,H,D,E,C,A,p⟩:=x;obtain⟨y1,y2,y3,y4,y5,y6,y7⟩:=y;obtain⟨z1,z2,z3,z4,z5,z6,z7⟩:=x';obtain⟨w1,w2,w3,w4,w5,w6,w7⟩:=y';by_cases q:de (.mk J H D E C A p) (.mk y1 y2 y3 y4 y5 y6 y7)=0;rw[if_pos q];rw[q]at h1;refine qn func95 call95 λβ hf=>?_;have LL:=cY g1;have QV:=cY Y;have QW:=cY g3;have Uy:=cY g4;exact dq;rw[if_neg q];have e1:(de (.mk J H D E C A p) (.mk y1 y2 y3 y4 y5 y6 y7) != 0)=true:=(by simpa using q);refine qn func95 call95 λβ hf=>?_;have YB:=cY g1;have aaX:=cY Y;have aaY:=cY g3;have YC:=cY g4;exact dq
  by_cases c4:k'=12;subst c4;rw[aaf];have h1:=xU n T;obtain⟨m1,P,m3,W⟩:=p12 rfl;obtain⟨r1,K,r3,r4⟩:=q12 rfl;obtain⟨x,I⟩:=NV m3;obtain⟨y,Q⟩:=NV r3;by_cases q:tN n T=0;rw[if_pos q];rw[q]at h1;have hnn:=mP.1 q;have N:=W x aas;have G:=r4 y (by rw[Q];simp);rw[<- hnn]at G;have h2:=O x aas y (aG t n.toNat) N.2 N.1 G.1;have g1:args[0]?=some x:=(by rw[I];rfl);have Y:M[0]?=some y:=(by rw[Q];rfl);have U:iL args M=de x y:=(by rw[I,Q,IS]);rw[U];obtain⟨J,H,D,E,C,A,p⟩:=x;obtain⟨y1,y2,y3,y4,y5,y6,y7⟩:=y;refine qn func95 call95 λβ hf=>?_;have YD:=cY g1;have YE:=cY Y;exact dq;rw[if_neg q];have e1:(tN n T != 0)=true:=(by simpa using q);exact qdq func95 call95;rw[acJ c1 c2 c3 c4];have e1:(k'==6)=false:=by simpa using c1
  have e2:(k'==9)=false:=by simpa using c2
  have U:(k'==11)=false:=by simpa using c3
  have e4:(k'==12)=false:=by simpa using c4
  have h1:=xU n T;exact qdq func95 call95
termination_by v=>SizeOf.sizeOf v
decreasing_by
 have:=abg N;simp at this ⊢;omega
end Go.Proofs
