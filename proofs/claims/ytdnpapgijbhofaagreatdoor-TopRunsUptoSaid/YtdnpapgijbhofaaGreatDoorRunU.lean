/- Methods of package run's machine that keep its blocks' names; -/
import Derived.Test.YtdnpapgijbhofaaGreatDoorRunE
import Derived.Test.YtdnpapgijbhofaaGreatDoorRun2
open Go.IntKind
open Go.Proofs.Tryz
set_option linter.defProp false
set_option maxHeartbeats 0
set_option linter.unusedVariables false
set_option linter.unusedSimpArgs false
set_option maxRecDepth 100000
namespace Go.Proofs
open Go.cw
def zM(f:FuncId)(S:bZ)(M:L AV)(r:CV)(W:bZ):Prop :=
 rQ f (mI (mC S) (bz (sR S.st)) (bz (fR S.fr))) (.ptr 1000000 0::M) (.c r) (mI (mC W) (bz (sR W.st)) (bz (fR W.fr)))
def TT{f:FuncId}{n:Nat}{β:kz}{K:L Item}{env:Env}{C:Func}(hf:Tryz.prog.funcs[f]?=some C){bs:L (Nat×L AV)}{ts:L (Nat×Nat)}{us:L Nat}{l:L AV}(B:qT Tryz.X bs env C.results.toList=some l)
  {v:CV}(N:close (zZ l)=some v){W:bZ}{cells H S:L AV}(h1:aq 1000000 bs=some cells)(E:cells=mC W 1000001 1000002)(h2:aq 1000001 bs=some H)(q:H=ak (sR W.st))(I:aq 1000002 bs=some S)(Y:S=ak (fR W.fr)){r:CV}(O:v=r) :
  By f n β (HR β (.c r) (mI (mC W) (bz (sR W.st)) (bz (fR W.fr)))) (.code .ret::K) env ⟨bs,ts,us⟩:=by
 subst E q Y O;refine AK.G0 (.inl ⟨_,Z⟩) hX hf B [(1000000,1000000),(1000001,1000001),(1000002,1000002)] Z (.inr N) ⟨⟨_,_,Z,h1,(Hf W).conv _ _ _ _ _ _ Z Z⟩,⟨_,_,Z,h2,cJ _⟩,⟨_,_,Z,I,cJ _⟩,trivial⟩
def uMK{ops:Array Oper}{o:Oper}{rest:L Oper}{env:Env}{acc:L Fp}{Q:Env->St->L Fp->Prop}{bs:L (Nat×L AV)}{ts:L (Nat×Nat)}{us:L Nat}(G:cY ops.toList kn env o=some true){f:FuncId}{args:Array Operand}{H:Array TypeId}(P:o.op = .call {callee := .value (.func f),args:=args,argTypes:=H})
  {S W:bZ}{V:L AV}{r:CV}(hq:zM f S V r W){d:Nat}(I:o.dst=some d)
  {l:L AV}(M:gI (aG Tryz.X env) args.toList=some l){km:Nat}{U:L AV}(Y:l = .ptr km 0::U){u fk:Nat}{N T C:L AV}(h1:aq km bs=some N)(E:N=mC S u fk)(h2:aq u bs=some T)(q:T=ak (sR S.st))(K:aq fk bs=some C)(O:C=ak (fR S.fr))
  (J:∀ts,fq ⟨λk=>aq k [(1000000,km),(1000001,u),(1000002,fk)],λ_=>none⟩ ts V U)(D:Go.cw.distinct [km,u,fk]=true)
  {bs':L (Nat×L AV)}(B:kR [km,u,fk] bs=bs')
  (k:me ops rest ((d,.c r)::env) ⟨(km,mC W u fk)::(u,ak (sR W.st))::(fk,ak (fR W.fr))::bs',ts,km::u::fk::us⟩ (⟨[],[km,u,fk,km,u,fk,km,u,fk]⟩::acc) Q):me ops (o::rest) env ⟨bs,ts,us⟩ acc Q:=by
 subst Y;exact ah.adO kn G P hq (Hf S) (Hf W) I M Z h1 E h2 q K O (λts=>⟨_,_,Z,⟨_,fe,Z⟩,J ts⟩) D Z Z B k
def Pv{ops:Array Oper}{o:Oper}{rest:L Oper}{env:Env}{acc:L Fp}{Q:Env->St->L Fp->Prop}{bs:L (Nat×L AV)}{ts:L (Nat×Nat)}{us:L Nat}{f:FuncId}{args:Array Operand}{H:Array TypeId}{S W:bZ}{V:L AV}{r:CV}{d:Nat}{l:L AV}{km:Nat}{U:L AV}{u fk:Nat}{N T C:L AV}{bs':L (Nat×L AV)}(k:me ops rest ((d,.c r)::env) ⟨(km,mC W u fk)::(u,ak (sR W.st))::(fk,ak (fR W.fr))::bs',ts,km::u::fk::us⟩ (⟨[],[km,u,fk,km,u,fk,km,u,fk]⟩::acc) Q)(G:cY ops.toList kn env o=some true:=by exact rfl)(P:o.op = .call {callee := .value (.func f),args:=args,argTypes:=H}:=by exact rfl)(hq:zM f S V r W:=by assumption)(I:o.dst=some d:=by exact rfl)(M:gI (aG Tryz.X env) args.toList=some l:=by exact rfl)(Y:l = .ptr km 0::U:=by exact rfl)(h1:aq km bs=some N:=by exact rfl)(E:N=mC S u fk:=by exact rfl)(h2:aq u bs=some T:=by exact rfl)(q:T=ak (sR S.st):=by exact rfl)(K:aq fk bs=some C:=by exact rfl)(O:C=ak (fR S.fr):=by exact rfl)(J:∀ts,fq ⟨λk=>aq k [(1000000,km),(1000001,u),(1000002,fk)],λ_=>none⟩ ts V U:=by intro _;repeat' (first|exact rfl|refine Il rfl ?_|refine Im rfl ?_))(D:Go.cw.distinct [km,u,fk]=true:=by exact rfl)(B:kR [km,u,fk] bs=bs':=by exact rfl): me ops (o::rest) env ⟨bs,ts,us⟩ acc Q:=uMK G P hq I M Y h1 E h2 q K O J D B k
def TS(f:iR)(t:List iR):dV (0+t.length*4+1) (ak (fR (f::t)))=some [.c (ag (f.pos:Nat)),.c (ag f.fin),.c (.sl 7 (aa f.aside))]:=lz _ 1 _ _ _ (A6 f t) rfl
def wT(f:iR)(t:List iR):dV (0+t.length*4+2) (ak (fR (f::t)))=some [.c (ag f.fin),.c (.sl 7 (aa f.aside))]:=lz _ 2 _ _ _ (A6 f t) rfl
def HH(f:iR)(t:List iR):dV (0+t.length*4+3) (ak (fR (f::t)))=some [.c (.sl 7 (aa f.aside))]:=lz _ 3 _ _ _ (A6 f t) rfl
def TU(f:iR)(t:List iR):bG (0+t.length*4+1) [.c (ag 0)] (ak (fR (f::t)))=some (ak (fR ({f with pos:=0}::t))):=G4 f t 0
attribute [local irreducible] AK ah aR bM cn cX oK
def TV(S:bZ)(h:S.bU<=S.used):zM 108 S [] (ag 12) S:=by
 have Y:decide (S.used>=S.bU)=true:=aaX h;refine cn.of func108 Z (λM w=>call108 M w) (aeP Z) [(0,.ptr 1000000 0)] ⟨[(1000000,mC (S) 1000001 1000002),(1000001,ak (sR (S).st)),(1000002,ak (fR (S).fr))],[],[1000000,1000001,1000002]⟩ Z Z λβ=>?_;have hf:=func108
 repeat' (first|refine o9 ?_|refine zc ?_ ?_|(intro h;first|(cases h;done)|rw[h]|skip))
 exact aeA
def TW(S:bZ)(h:S.used<S.bU)(h1:Tl S.bU)(h2:0<=S.used):zM 108 S [] (ag 0) {S with used:=S.used+1}:=by
 have I:decide (S.used>=S.bU)=false:=aaY ai;have Y:i64.wrap (S.used+1)=S.used+1:=iB ai (by have:=h1.2;omega);refine cn.of func108 Z (λM w=>call108 M w) (aeP Z) [(0,.ptr 1000000 0)] ⟨[(1000000,mC (S) 1000001 1000002),(1000001,ak (sR (S).st)),(1000002,ak (fR (S).fr))],[],[1000000,1000001,1000002]⟩ Z Z λβ=>?_;have hf:=func108
 repeat' (first|refine o9 ?_|refine zc ?_ ?_|(intro h;first|(cases h;done)|rw[h]|skip))
 rw[Y];exact aeA
def Y1(S:bZ)(h:S.st=[]):zM 131 S [] (.eF [bA lC,.bool false]) S:=by
 obtain⟨a,b,c,d,st,H,g,u,m,Q⟩:=S;simp only at h;subst h;have Y:decide (i64.wrap (((([]:L Vl).length:Nat):Int)-1)<0)=true:=by decide
 refine cn.of func131 Z (λM w=>call131 M w) (aeP Z) [(0,.ptr 1000000 0)] ⟨[(1000000,mC (bZ.mk a b c d [] H g u m Q) 1000001 1000002),(1000001,ak (sR (bZ.mk a b c d [] H g u m Q).st)),(1000002,ak (fR (bZ.mk a b c d [] H g u m Q).fr))],[],[1000000,1000001,1000002]⟩ Z Z λβ=>?_;have hf:=func131
 repeat' (first|refine o9 ?_|refine zc ?_ ?_|(intro h;first|(cases h;done)|rw[h]|skip))
 exact aeA
def Dz(S:bZ)(v:Vl)(t:L Vl)(h:S.st=v::t)(I:t.length<=1099511627776):zM 131 S [] (.eF [bA v,.bool true]) {S with st:=t}:=by
 obtain⟨a,b,c,d,st,H,g,u,m,Q⟩:=S;simp only at h;subst h;have Y:i64.wrap ((((v::t).length:Nat):Int)-1)=(t.length:Nat):=by rw[iB cS cS];simp only[aag];omega
 have T:decide (i64.wrap ((((v::t).length:Nat):Int)-1)<0)=false:=by rw[Y];exact aaY ai
 obtain⟨k,n,W,s,M,V,code⟩:=v;have U:=LC k n W s M V code t;refine cn.of func131 Z (λM w=>call131 M w) (aeP Z) [(0,.ptr 1000000 0)] ⟨[(1000000,mC (bZ.mk a b c d (.mk k n W s M V code::t) H g u m Q) 1000001 1000002),(1000001,ak (sR (bZ.mk a b c d (.mk k n W s M V code::t) H g u m Q).st)),(1000002,ak (fR (bZ.mk a b c d (.mk k n W s M V code::t) H g u m Q).fr))],[],[1000000,1000001,1000002]⟩ Z Z λβ=>?_;have hf:=func131
 repeat' (first|refine o9 ?_|refine zc ?_ ?_|(intro h;first|(cases h;done)|rw[h]|skip)|refine ah.jU hX kn Z Z Z Z Z Z Z Z Z t.length Y (afo _) ?_|refine ah.dj hX kn Z Z Z Z Z Z U Z ?_|refine ah.Fe hX kn Z Z Z Z Z Z Z Z Z Z Z Z t.length Y (ahx _) ?_)
 refine AK.yu 1000001 (ak (sR t)) _ Z (Hh _ _) Z ?_;exact aeA
def VE{X:Go.cw.Ctx}{env:Env}{y:Operand}{z:Int}{Q:IntKind}{h:Nat}(N:aG X env y=some (.c (.int Q z)))(Y:z=h):bound (aG X env) (some y)=some (some h):=by subst Y;simp only[bound,N,asNat]
def L9(S:bZ)(F:iR)(t:List iR)(h:S.fr=F::t)(C:F.fin=0)(P:t.length<=1099511627776):cH 106 S [.ptr 1000002 (0+t.length*4)] (ag 0) {S with fr:=t}:=by
 obtain⟨a,b,c,d,O,fr,g,u,m,Q⟩:=S;obtain⟨code,Y,fin,I⟩:=F;simp only at h C;subst h C;have h2:=wT ⟨code,Y,0,I⟩ t;have M:i64.wrap ((((iR.mk code Y 0 I::t).length:Nat):Int)-1)=(t.length:Nat):=by rw[iB cS cS];simp only[aag];omega
 refine mn func106 call106 λβ hf=>?_
 repeat' ((fail_if_success (refine mw 28 ?_));first|refine o9 ?_|refine zc ?_ ?_|(intro h;first|(cases h;done)|rw[h]|skip)|refine AK.skip ?_|refine AK.seq ?_|refine AK.block ?_|refine AK.exit Z ?_|refine ah.dj hX kn Z Z Z Z Z Z h2 Z ?_|refine ah.sliceB hX kn Z Z Z Z Z Z Z Z (l:=none) (h:=some t.length) Z (VE Z M) (ahx _) (aeW _) ?_|(refine uA Z ?_ ?_<;>(try (show(_:Nat)*_<=_;dsimp only))))
 refine AK.yu 1000002 (cells:=ak (fR (⟨code,Y,0,I⟩::t))) (ak (fR t)) (ak [uc ⟨code,Y,0,I⟩]) Z (nq _ _) Z ?_;exact dm
def R9(a b c d:Int)(O:L Vl)(g u m:Int)(Q:Vl)(code:L Nd)(Y:Nat)(I:L Vl)(t:List iR)(C:O.length<=500000000)(T:I.length<=500000000)(P:t.length<=1099511627776):cH 106 ⟨a,b,c,d,O,⟨code,Y,1,I⟩::t,g,u,m,Q⟩ [.ptr 1000002 (0+t.length*4)] (ag 0) ⟨a,b,c,d,I.reverse++O,t,g,u,m,Q⟩:=by
 have h2:=wT ⟨code,Y,1,I⟩ t;have K:=HH ⟨code,Y,1,I⟩ t;have M:i64.wrap (((((⟨code,Y,1,I⟩:iR)::t).length:Nat):Int)-1)=(t.length:Nat):=by rw[iB cS cS];simp only[aag];omega
 have B:sR O++aa I=sR (I.reverse++O):=by rw[sR,sR,aif,ahf,mu]
 have U:((sR O).length+(aa I).length)*112<=140737488355328:=by rw[jV,aB];omega
 refine mn func106 call106 λβ hf=>?_
 repeat' ((fail_if_success (refine mw 28 ?_));first|refine o9 ?_|refine zc ?_ ?_|(intro h;first|(cases h;done)|rw[h]|skip)|refine AK.skip ?_|refine AK.seq ?_|refine AK.block ?_|refine AK.exit Z ?_|refine ah.dj hX kn Z Z Z Z Z Z h2 Z ?_|refine ah.dj hX kn Z Z Z Z Z Z K Z ?_|refine ah.nA hX kn Z Z Z Z Z Z Z Z Z Z Z Z Z Z Z (sR O) [] (aeO _).symm (jV _).symm (v9 _) Z Z Z Z Z Z Z U B (m:=(I.reverse++O).length) (jV _) Z ?_|refine ah.sliceB hX kn Z Z Z Z Z Z Z Z (l:=none) (h:=some t.length) Z (VE Z M) (ahx _) (aeW _) ?_|(refine uA Z ?_ ?_<;>(try (show(_:Nat)*_<=_;dsimp only))))
 refine AK.yu 1000002 (cells:=ak (fR (⟨code,Y,1,I⟩::t))) (ak (fR t)) (ak [uc ⟨code,Y,1,I⟩]) Z (nq _ _) Z ?_;exact dm
def Ma(a b c d:Int)(O:L Vl)(g u m:Int)(Q:Vl)(code:L Nd)(Y:Nat)(I:L Vl)(t:List iR)(P:t.length<=1099511627776):cH 106 ⟨a,b,c,d,[],⟨code,Y,2,I⟩::t,g,u,m,Q⟩ [.ptr 1000002 (0+t.length*4)] (ag 14) ⟨a,b,c,d,[],⟨code,Y,2,I⟩::t,g,u,m,Q⟩:=by
 have h2:=wT ⟨code,Y,2,I⟩ t;have K:=HH ⟨code,Y,2,I⟩ t;have M:i64.wrap (((((⟨code,Y,2,I⟩:iR)::t).length:Nat):Int)-1)=(t.length:Nat):=by rw[iB cS cS];simp only[aag];omega
 refine mn func106 call106 λβ hf=>?_
 repeat' (first|refine o9 ?_|refine zc ?_ ?_|(intro h;first|(cases h;done)|rw[h]|skip)|refine AK.skip ?_|refine AK.seq ?_|refine AK.block ?_|refine AK.exit Z ?_|refine ah.dj hX kn Z Z Z Z Z Z h2 Z ?_|(refine uA Z ?_ ?_<;>(try (show(_:Nat)*_<=_;dsimp only))))
 all_goals rfl
def Mb(a b c d:Int)(v:Vl)(O:L Vl)(g u m:Int)(Q:Vl)(code:L Nd)(Y:Nat)(t:List iR)(C:O.length<=500000000)(I:t.length<=1099511627776):cH 106 ⟨a,b,c,d,v::O,⟨code,Y,2,[]⟩::t,g,u,m,Q⟩ [.ptr 1000002 (0+t.length*4)] (ag 0) ⟨a,b,c,d,[v],t,g,u,m,Q⟩:=by
 have h2:=wT ⟨code,Y,2,[]⟩ t;have K:=HH ⟨code,Y,2,[]⟩ t;have M:i64.wrap (((((⟨code,Y,2,[]⟩:iR)::t).length:Nat):Int)-1)=(t.length:Nat):=by rw[iB cS cS];simp only[aag];omega
 have W:i64.wrap ((((O.length+1:Nat)):Int)-1)=(O.length:Nat):=by rw[iB ai ai];omega
 have P:((((O.length+1:Nat)):Int)==0)=false:=beq_eq_false_iff_ne.2 ai;obtain⟨J,E,V,S,N,U,A⟩:=v;have T:=LC J E V S N U A O;refine mn func106 call106 λβ hf=>?_
 repeat' ((fail_if_success (refine mw 28 ?_));first|refine o9 ?_|refine zc ?_ ?_|(intro h;first|(cases h;done)|rw[h]|skip)|refine AK.skip ?_|refine AK.seq ?_|refine AK.block ?_|refine AK.exit rfl ?_|refine ah.dj hX kn rfl rfl rfl rfl rfl rfl h2 rfl ?_|refine ah.jU hX kn rfl rfl rfl rfl rfl rfl rfl rfl rfl O.length W (afo _) ?_|refine ah.dj hX kn rfl rfl rfl rfl rfl rfl T rfl ?_|refine ah.dj hX kn rfl rfl rfl rfl rfl rfl K rfl ?_|refine ah.A2 kn rfl rfl (kW 7) rfl rfl (λ_=>⟨_,_,rfl,.inr rfl,rfl⟩) rfl rfl ?_|refine ah.sV hX kn rfl rfl rfl rfl rfl rfl rfl rfl rfl rfl rfl rfl rfl rfl rfl rfl rfl rfl (λh=>by cases h) rfl rfl rfl (show(0+1)*112<=140737488355328 by decide) rfl (m:=1) rfl ?_|refine ah.sliceB hX kn rfl rfl rfl rfl rfl rfl rfl rfl (l:=none) (h:=some t.length) rfl (VE rfl M) (ahx _) (aeW _) ?_|(refine uA rfl ?_ ?_<;>(try (show(_:Nat)*_<=_;dsimp only))))
 refine AK.yu 1000002 (cells:=ak (fR (⟨code,Y,2,[]⟩::t))) (ak (fR t)) (ak [uc ⟨code,Y,2,[]⟩]) Z (nq _ _) Z ?_;exact dm
def Mc(a b c d:Int)(v:Vl)(Y:L Vl)(g u m:Int)(Q:Vl)(code:L Nd)(W:Nat)(x:Vl)(q:L Vl)(t:List iR)(C:Y.length<=500000000)(G:q.length<=500000000)(D:t.length<=1099511627776):cH 106 ⟨a,b,c,d,v::Y,⟨code,W,2,(x::q)⟩::t,g,u,m,Q⟩ [.ptr 1000002 (0+t.length*4)] (ag 0) ⟨a,b,c,d,v::(x::q).reverse,t,g,u,m,Q⟩:=by
 have h2:=wT ⟨code,W,2,(x::q)⟩ t;have K:=HH ⟨code,W,2,(x::q)⟩ t;have M:i64.wrap (((((⟨code,W,2,(x::q)⟩:iR)::t).length:Nat):Int)-1)=(t.length:Nat):=by rw[iB cS cS];simp only[aag];omega
 have P:i64.wrap ((((Y.length+1:Nat)):Int)-1)=(Y.length:Nat):=by rw[iB ai ai];omega
 have hz:((((Y.length+1:Nat)):Int)==0)=false:=beq_eq_false_iff_ne.2 ai;obtain⟨J,E,V,S,O,U,A⟩:=v;have N:=LC J E V S O U A Y;have I:=fW x q ai;have B:aa (x::q)++aa [.mk J E V S O U A]=sR (.mk J E V S O U A::(x::q).reverse):=by rw[sR,ahU,ahf,mu]
 have T:(bz (aa (x::q))).length=(q.length+1)*7:=by rw[dz (rows:=aa (x::q)) (s:=7) (iy _),aB];rfl
 have H:((aa (x::q)).length+1)*112<=140737488355328:=by rw[aB,aag];omega
 refine mn func106 call106 λβ hf=>?_
 repeat' ((fail_if_success (refine mw 28 ?_));first|refine o9 ?_|refine zc ?_ ?_|(intro h;first|(cases h;done)|rw[h]|skip)|refine AK.skip ?_|refine AK.seq ?_|refine AK.block ?_|refine AK.exit Z ?_|refine ah.dj hX kn Z Z Z Z Z Z h2 Z ?_|refine ah.jU hX kn Z Z Z Z Z Z Z Z Z Y.length P (afo _) ?_|refine ah.dj hX kn Z Z Z Z Z Z N Z ?_|refine ah.dj hX kn Z Z Z Z Z Z K Z ?_|refine ah.mU kn Z Z Z Z Z Z I Z ?_|refine ah.nA hX kn Z Z Z Z Z Z Z Z Z Z Z Z Z Z Z (aa (x::q)) [] (aeO _).symm (aB (x::q)).symm T Z Z Z Z Z Z Z H B (m:=(Vl.mk J E V S O U A::(x::q).reverse).length) (jV _) Z ?_|refine ah.sliceB hX kn Z Z Z Z Z Z Z Z (l:=none) (h:=some t.length) Z (VE Z M) (ahx _) (aeW _) ?_|(refine uA Z ?_ ?_<;>(try (show(_:Nat)*_<=_;dsimp only))))
 refine AK.yu 1000002 (cells:=ak (fR (⟨code,W,2,(x::q)⟩::t))) (ak (fR t)) (ak [uc ⟨code,W,2,(x::q)⟩]) Z (nq _ _) Z ?_;exact dm
def Md(a b c d:Int)(O:L Vl)(g u m:Int)(Q:Vl)(code:L Nd)(Y:Nat)(t:List iR)(I:t.length<=1099511627776):cH 106 ⟨a,b,c,d,O,⟨code,Y,3,[]⟩::t,g,u,m,Q⟩ [.ptr 1000002 (0+t.length*4)] (ag 0) ⟨a,b,c,d,O,t,g,u,m,Q⟩:=by
 have h2:=wT ⟨code,Y,3,[]⟩ t;have K:=HH ⟨code,Y,3,[]⟩ t;have M:i64.wrap (((((⟨code,Y,3,[]⟩:iR)::t).length:Nat):Int)-1)=(t.length:Nat):=by rw[iB cS cS];simp only[aag];omega
 refine mn func106 call106 λβ hf=>?_
 repeat' ((fail_if_success (refine mw 28 ?_));first|refine o9 ?_|refine zc ?_ ?_|(intro h;first|(cases h;done)|rw[h]|skip)|refine AK.skip ?_|refine AK.seq ?_|refine AK.block ?_|refine AK.exit Z ?_|refine ah.dj hX kn Z Z Z Z Z Z h2 Z ?_|refine ah.dj hX kn Z Z Z Z Z Z K Z ?_|refine ah.sliceB hX kn Z Z Z Z Z Z Z Z (l:=none) (h:=some t.length) Z (VE Z M) (ahx _) (aeW _) ?_|(refine uA Z ?_ ?_<;>(try (show(_:Nat)*_<=_;dsimp only))))
 refine AK.yu 1000002 (cells:=ak (fR (⟨code,Y,3,[]⟩::t))) (ak (fR t)) (ak [uc ⟨code,Y,3,[]⟩]) Z (nq _ _) Z ?_;exact dm
def Me(a b c d:Int)(O:L Vl)(g u m:Int)(Q:Vl)(code:L Nd)(Y:Nat)(x:Vl)(q:L Vl)(t:List iR)(G:g<=u)(I:t.length<=1099511627776):cH 106 ⟨a,b,c,d,O,⟨code,Y,3,x::q⟩::t,g,u,m,Q⟩ [.ptr 1000002 (0+t.length*4)] (ag 12) ⟨a,b,c,d,O,⟨code,Y,3,x::q⟩::t,g,u,m,Q⟩:=by
 have h2:=wT ⟨code,Y,3,x::q⟩ t;have K:=HH ⟨code,Y,3,x::q⟩ t;have M:i64.wrap (((((⟨code,Y,3,x::q⟩:iR)::t).length:Nat):Int)-1)=(t.length:Nat):=by rw[iB cS cS];simp only[aag];omega
 have S:=TV ⟨a,b,c,d,O,⟨code,Y,3,x::q⟩::t,g,u,m,Q⟩ G;have W:decide ((((aa (x::q)).length:Nat):Int)>0)=true:=aaX (by rw[aB,aag];omega);refine mn func106 call106 λβ hf=>?_
 repeat' (first|refine o9 ?_|refine zc ?_ ?_|(intro h;first|(cases h;done)|rw[h]|skip)|refine AK.skip ?_|refine AK.seq ?_|refine AK.block ?_|refine AK.exit Z ?_|refine ah.dj hX kn Z Z Z Z Z Z h2 Z ?_|refine ah.dj hX kn Z Z Z Z Z Z K Z ?_|refine Pv ?_ (hq:=S)|(refine uA Z ?_ ?_<;>(try (show(_:Nat)*_<=_;dsimp only))))
 all_goals rfl
def Mf(a b c d:Int)(O:L Vl)(g u m:Int)(Q:Vl)(code:L Nd)(Y:Nat)(x:Vl)(q:L Vl)(t:List iR)(G:u<g)(P:Tl g)(M:0<=u)(C:O.length<=500000000)(D:t.length<=1099511627776):cH 106 ⟨a,b,c,d,O,⟨code,Y,3,x::q⟩::t,g,u,m,Q⟩ [.ptr 1000002 (0+t.length*4)] (ag 0) ⟨a,b,c,d,x::O,⟨code,0,3,q⟩::t,g,u+1,m,Q⟩:=by
 have h2:=wT ⟨code,Y,3,x::q⟩ t;have K:=HH ⟨code,Y,3,x::q⟩ t;have hw:i64.wrap (((((⟨code,Y,3,x::q⟩:iR)::t).length:Nat):Int)-1)=(t.length:Nat):=by rw[iB cS cS];simp only[aag];omega
 have B:=TW ⟨a,b,c,d,O,⟨code,Y,3,x::q⟩::t,g,u,m,Q⟩ G P M;have hc:decide ((((aa (x::q)).length:Nat):Int)>0)=true:=aaX (by rw[aB,aag];omega);obtain⟨J,E,U,S,N,T,A⟩:=x;have I:=Rt J E U S N T A O;have H:((sR O).length+1)*112<=140737488355328:=by rw[jV];omega
 have W:=Yi ⟨code,Y,3,.mk J E U S N T A::q⟩ t q;have V:=TU ⟨code,Y,3,q⟩ t;refine mn func106 call106 λβ hf=>?_
 repeat' (first|refine o9 ?_|refine zc ?_ ?_|(intro h;first|(cases h;done)|rw[h]|skip)|refine AK.skip ?_|refine AK.seq ?_|refine AK.block ?_|refine AK.exit Z ?_|refine ah.dj hX kn Z Z Z Z Z Z h2 Z ?_|refine ah.dj hX kn Z Z Z Z Z Z K Z ?_|refine Pv ?_ (hq:=B)|refine uI Z (0) Z (Z) Z ?_|refine ah.nA hX kn Z Z Z Z Z Z Z Z Z Z Z Z Z Z Z (sR O) [] (aeO _).symm (jV _).symm (v9 _) Z Z Z Z Z Z Z H Z (m:=O.length+1) (by rw[aaZ,jV];rfl) Z ?_|refine ah.jU hX kn Z Z Z Z Z Z Z Z Z O.length Z (afo _) ?_|refine ah.store hX kn Z Z Z Z Z Z Z Z Z (I _ Z) Z ?_|refine ah.sliceFrom hX kn Z Z Z Z Z Z Z Z (m:=1) Z (agN (aeW _)) ?_|refine ah.store hX kn Z Z Z Z Z Z Z Z Z W Z ?_|refine ah.store hX kn Z Z Z Z Z Z Z Z Z V Z ?_|(refine uA Z ?_ ?_<;>(try (show(_:Nat)*_<=_;dsimp only))))
 all_goals rfl
def Mg(a b c d:Int)(O:L Vl)(g u m:Int)(Q:Vl)(code:L Nd)(Y:Nat)(I:L Vl)(t:List iR)(C:O.length<=500000000)(P:t.length<=1099511627776):cH 106 ⟨a,b,c,d,[],⟨code,Y,4,I⟩::t,g,u,m,Q⟩ [.ptr 1000002 (0+t.length*4)] (ag 14) ⟨a,b,c,d,[],⟨code,Y,4,I⟩::t,g,u,m,Q⟩:=by
 have h2:=wT ⟨code,Y,4,I⟩ t;have M:i64.wrap (((((⟨code,Y,4,I⟩:iR)::t).length:Nat):Int)-1)=(t.length:Nat):=by rw[iB cS cS];simp only[aag];omega
 have S:=Y1 ⟨a,b,c,d,[],⟨code,Y,4,I⟩::t,g,u,m,Q⟩ Z;refine mn func106 call106 λβ hf=>?_
 repeat' (first|refine o9 ?_|refine zc ?_ ?_|(intro h;first|(cases h;done)|rw[h]|skip)|refine AK.skip ?_|refine AK.seq ?_|refine AK.block ?_|refine AK.exit Z ?_|refine ah.dj hX kn Z Z Z Z Z Z h2 Z ?_|refine Pv ?_ (hq:=S)|(refine uA Z ?_ ?_<;>(try (show(_:Nat)*_<=_;dsimp only))))
 all_goals rfl
def Mj(a b c d:Int)(J E V:Int)(S:L UInt8)(O:L Vl)(U:L Ty)(A:L Nd)(B:¬E=1)(W:L Vl)(g u m:Int)(Q:Vl)(code:L Nd)(Y:Nat)(I:L Vl)(t:List iR)(C:W.length<=500000000)(P:t.length<=1099511627776):cH 106 ⟨a,b,c,d,.mk J E V S O U A::W,⟨code,Y,4,I⟩::t,g,u,m,Q⟩ [.ptr 1000002 (0+t.length*4)] (ag 0) ⟨a,b,c,d,W,t,g,u,m,Q⟩:=by
 have h2:=wT ⟨code,Y,4,I⟩ t;have M:i64.wrap (((((⟨code,Y,4,I⟩:iR)::t).length:Nat):Int)-1)=(t.length:Nat):=by rw[iB cS cS];simp only[aag];omega
 have T:=Dz ⟨a,b,c,d,.mk J E V S O U A::W,⟨code,Y,4,I⟩::t,g,u,m,Q⟩ (.mk J E V S O U A) W Z ai;have N:(E==1)=false:=beq_eq_false_iff_ne.2 B;refine mn func106 call106 λβ hf=>?_
 repeat' ((fail_if_success (refine mw 28 ?_));first|refine o9 ?_|refine zc ?_ ?_|(intro h;first|(cases h;done)|rw[h]|skip)|refine AK.skip ?_|refine AK.seq ?_|refine AK.block ?_|refine AK.exit Z ?_|refine ah.dj hX kn Z Z Z Z Z Z h2 Z ?_|refine Pv ?_ (hq:=T)|refine ah.sliceB hX kn Z Z Z Z Z Z Z Z (l:=none) (h:=some t.length) Z (VE Z M) (ahx _) (aeW _) ?_|(refine uA Z ?_ ?_<;>(try (show(_:Nat)*_<=_;dsimp only))))
 refine AK.yu 1000002 (cells:=ak (fR (⟨code,Y,4,I⟩::t))) (ak (fR t)) (ak [uc ⟨code,Y,4,I⟩]) Z (nq _ _) Z ?_;exact dm
def Mh(a b c d:Int)(J V:Int)(S:L UInt8)(O:L Vl)(E:L Ty)(A:L Nd)(Y:L Vl)(g u m:Int)(Q:Vl)(code:L Nd)(W:Nat)(I:L Vl)(t:List iR)(G:g<=u)(C:Y.length<=500000000)(P:t.length<=1099511627776):cH 106 ⟨a,b,c,d,.mk J 1 V S O E A::Y,⟨code,W,4,I⟩::t,g,u,m,Q⟩ [.ptr 1000002 (0+t.length*4)] (ag 12) ⟨a,b,c,d,Y,⟨code,W,4,I⟩::t,g,u,m,Q⟩:=by
 have h2:=wT ⟨code,W,4,I⟩ t;have M:i64.wrap (((((⟨code,W,4,I⟩:iR)::t).length:Nat):Int)-1)=(t.length:Nat):=by rw[iB cS cS];simp only[aag];omega
 have B:=Dz ⟨a,b,c,d,.mk J 1 V S O E A::Y,⟨code,W,4,I⟩::t,g,u,m,Q⟩ (.mk J 1 V S O E A) Y Z ai;have hq:=TV ⟨a,b,c,d,Y,⟨code,W,4,I⟩::t,g,u,m,Q⟩ G;refine mn func106 call106 λβ hf=>?_
 repeat' (first|refine o9 ?_|refine zc ?_ ?_|(intro h;first|(cases h;done)|rw[h]|skip)|refine AK.skip ?_|refine AK.seq ?_|refine AK.block ?_|refine AK.exit Z ?_|refine ah.dj hX kn Z Z Z Z Z Z h2 Z ?_|refine Pv ?_ (hq:=B)|refine Pv ?_ (hq:=hq)|(refine uA Z ?_ ?_<;>(try (show(_:Nat)*_<=_;dsimp only))))
 all_goals rfl
def Mi(a b c d:Int)(J V:Int)(S:L UInt8)(O:L Vl)(E:L Ty)(A:L Nd)(Y:L Vl)(g u m:Int)(Q:Vl)(code:L Nd)(W:Nat)(I:L Vl)(t:List iR)(G:u<g)(T:Tl g)(P:0<=u)(C:Y.length<=500000000)(M:t.length<=1099511627776):cH 106 ⟨a,b,c,d,.mk J 1 V S O E A::Y,⟨code,W,4,I⟩::t,g,u,m,Q⟩ [.ptr 1000002 (0+t.length*4)] (ag 0) ⟨a,b,c,d,Y,⟨code,0,4,I⟩::t,g,u+1,m,Q⟩:=by
 have h2:=wT ⟨code,W,4,I⟩ t;have N:i64.wrap (((((⟨code,W,4,I⟩:iR)::t).length:Nat):Int)-1)=(t.length:Nat):=by rw[iB cS cS];simp only[aag];omega
 have B:=Dz ⟨a,b,c,d,.mk J 1 V S O E A::Y,⟨code,W,4,I⟩::t,g,u,m,Q⟩ (.mk J 1 V S O E A) Y Z ai;have hq:=TW ⟨a,b,c,d,Y,⟨code,W,4,I⟩::t,g,u,m,Q⟩ G T P;have U:=TU ⟨code,W,4,I⟩ t;refine mn func106 call106 λβ hf=>?_
 repeat' (first|refine o9 ?_|refine zc ?_ ?_|(intro h;first|(cases h;done)|rw[h]|skip)|refine AK.skip ?_|refine AK.seq ?_|refine AK.block ?_|refine AK.exit Z ?_|refine ah.dj hX kn Z Z Z Z Z Z h2 Z ?_|refine Pv ?_ (hq:=B)|refine Pv ?_ (hq:=hq)|refine ah.store hX kn Z Z Z Z Z Z Z Z Z U Z ?_|(refine uA Z ?_ ?_<;>(try (show(_:Nat)*_<=_;dsimp only))))
 all_goals rfl
end Go.Proofs
namespace Go.Proofs
open Go.cw
def aiW(u K T:Prop)[Decidable u][Decidable K][Decidable T]:(if u then 0 else if K then 2 else if T then 3 else 1:Nat)<=3:=by by_cases h1:u;rw[if_pos h1];omega;rw[if_neg h1];by_cases h2:K;rw[if_pos h2];omega;rw[if_neg h2];by_cases I:T;rw[if_pos I];omega;rw[if_neg I];omega
def pP(p:Int):bY p<=3:=by unfold bY;exact aiW _ _ _
def pQ{S:bZ}{n:Nat}{l r:L Vl}(B:n<=3)(I:S.st.length<=1099511627776)(h:ki n S.st=some (l,r)):cH 132 S [.c (ag (n:Nat))] (.eF [.sl 7 (aa l),.bool true]) {S with st:=r}:=by have h1:=Rx S n B I;rw[h]at h1;exact h1
attribute [local irreducible] AK ah aR bM cn cX oK bY
def vp(S W:bZ)(Y N P:Int)(s:L UInt8)(M:L Nd)(l r:L Vl)(e:Int)(q:P=40\/P=41\/P=42\/P=43\/P=44)(C:ki (bY P) S.st=some (l,r))(I:S.st.length<=1099511627776)(D:cH 134 {S with st:=r} [.c (aM (.mk Y N P s M)),.c (.sl 7 (aa l))] (ag e) W):cH 109 S [.c (aM (.mk Y N P s M))] (ag e) W:=by
 have V:=mq P ai;have h1:=pQ (pP P) I C;generalize bY P=w at *;clear C;rcases q with rfl|rfl|rfl|rfl|rfl <;>
 ((refine mn func109 call109 λβ hf=>?_);(repeat' (first|refine o9 ?_|refine zc ?_ ?_|(intro h;first|(cases h;done)|rw[h]|skip)|refine uC Z V ?_|refine v8 ?_ (hq:=h1)|refine v8 ?_ (hq:=D)));(all_goals rfl))
def jX(S W:bZ)(Y N P:Int)(s:L UInt8)(M:L Nd)(l r:L Vl)(e:Int)(q:P=45\/P=46\/P=47\/P=48\/P=49\/P=50\/P=51\/P=53\/P=54\/P=56)(C:ki (bY P) S.st=some (l,r))(I:S.st.length<=1099511627776)(D:cH 135 {S with st:=r} [.c (aM (.mk Y N P s M)),.c (.sl 7 (aa l))] (ag e) W):cH 109 S [.c (aM (.mk Y N P s M))] (ag e) W:=by
 have V:=mq P ai;have h1:=pQ (pP P) I C;generalize bY P=w at *;clear C;rcases q with rfl|rfl|rfl|rfl|rfl|rfl|rfl|rfl|rfl|rfl <;>
 ((refine mn func109 call109 λβ hf=>?_);(repeat' (first|refine o9 ?_|refine zc ?_ ?_|(intro h;first|(cases h;done)|rw[h]|skip)|refine uC Z V ?_|refine v8 ?_ (hq:=h1)|refine v8 ?_ (hq:=D)));(all_goals rfl))
def gk(S W:bZ)(Y N P:Int)(s:L UInt8)(M:L Nd)(l r:L Vl)(e:Int)(q:P=52\/P=55\/P=58\/P=60\/P=64\/P=65\/P=66\/P=67\/P=68)(C:ki (bY P) S.st=some (l,r))(I:S.st.length<=1099511627776)(D:cH 136 {S with st:=r} [.c (aM (.mk Y N P s M)),.c (.sl 7 (aa l))] (ag e) W):cH 109 S [.c (aM (.mk Y N P s M))] (ag e) W:=by
 have V:=mq P ai;have h1:=pQ (pP P) I C;generalize bY P=w at *;clear C;rcases q with rfl|rfl|rfl|rfl|rfl|rfl|rfl|rfl|rfl <;>
 ((refine mn func109 call109 λβ hf=>?_);(repeat' (first|refine o9 ?_|refine zc ?_ ?_|(intro h;first|(cases h;done)|rw[h]|skip)|refine uC Z V ?_|refine v8 ?_ (hq:=h1)|refine v8 ?_ (hq:=D)));(all_goals rfl))
def sH(S W:bZ)(Y N P:Int)(s:L UInt8)(M:L Nd)(l r:L Vl)(e:Int)(q:P=57\/P=59\/P=61\/P=62\/P=63)(C:ki (bY P) S.st=some (l,r))(I:S.st.length<=1099511627776)(D:cH 137 {S with st:=r} [.c (aM (.mk Y N P s M)),.c (.sl 7 (aa l))] (ag e) W):cH 109 S [.c (aM (.mk Y N P s M))] (ag e) W:=by
 have V:=mq P ai;have h1:=pQ (pP P) I C;generalize bY P=w at *;clear C;rcases q with rfl|rfl|rfl|rfl|rfl <;>
 ((refine mn func109 call109 λβ hf=>?_);(repeat' (first|refine o9 ?_|refine zc ?_ ?_|(intro h;first|(cases h;done)|rw[h]|skip)|refine uC Z V ?_|refine v8 ?_ (hq:=h1)|refine v8 ?_ (hq:=D)));(all_goals rfl))
def eE(S W:bZ)(Y N P:Int)(s:L UInt8)(M:L Nd)(l r:L Vl)(e:Int)(q:P=69\/P=70\/P=71\/P=72\/P=93\/P=94\/P=95)(C:ki (bY P) S.st=some (l,r))(I:S.st.length<=1099511627776)(D:cH 138 {S with st:=r} [.c (ag P),.c (.sl 7 (aa l))] (ag e) W):cH 109 S [.c (aM (.mk Y N P s M))] (ag e) W:=by
 have V:=mq P ai;have h1:=pQ (pP P) I C;generalize bY P=w at *;clear C;rcases q with rfl|rfl|rfl|rfl|rfl|rfl|rfl <;>
 ((refine mn func109 call109 λβ hf=>?_);(repeat' (first|refine o9 ?_|refine zc ?_ ?_|(intro h;first|(cases h;done)|rw[h]|skip)|refine uC Z V ?_|refine v8 ?_ (hq:=h1)|refine v8 ?_ (hq:=D)));(all_goals rfl))
def iA(S W:bZ)(Y N P:Int)(s:L UInt8)(M:L Nd)(l r:L Vl)(e:Int)(q:P=73\/P=74\/P=75\/P=76\/P=77\/P=78\/P=79\/P=80\/P=81\/P=82\/P=83)(C:ki (bY P) S.st=some (l,r))(I:S.st.length<=1099511627776)(D:cH 139 {S with st:=r} [.c (aM (.mk Y N P s M)),.c (.sl 7 (aa l))] (ag e) W):cH 109 S [.c (aM (.mk Y N P s M))] (ag e) W:=by
 have V:=mq P ai;have h1:=pQ (pP P) I C;generalize bY P=w at *;clear C;rcases q with rfl|rfl|rfl|rfl|rfl|rfl|rfl|rfl|rfl|rfl|rfl <;>
 ((refine mn func109 call109 λβ hf=>?_);(repeat' (first|refine o9 ?_|refine zc ?_ ?_|(intro h;first|(cases h;done)|rw[h]|skip)|refine uC Z V ?_|refine v8 ?_ (hq:=h1)|refine v8 ?_ (hq:=D)));(all_goals rfl))
def kX(S W:bZ)(Y N P:Int)(s:L UInt8)(M:L Nd)(l r:L Vl)(e:Int)(q:P=84\/P=85\/P=86\/P=87\/P=88\/P=89\/P=90\/P=91\/P=92)(C:ki (bY P) S.st=some (l,r))(I:S.st.length<=1099511627776)(D:cH 140 {S with st:=r} [.c (aM (.mk Y N P s M)),.c (.sl 7 (aa l))] (ag e) W):cH 109 S [.c (aM (.mk Y N P s M))] (ag e) W:=by
 have V:=mq P ai;have h1:=pQ (pP P) I C;generalize bY P=w at *;clear C;rcases q with rfl|rfl|rfl|rfl|rfl|rfl|rfl|rfl|rfl <;>
 ((refine mn func109 call109 λβ hf=>?_);(repeat' (first|refine o9 ?_|refine zc ?_ ?_|(intro h;first|(cases h;done)|rw[h]|skip)|refine uC Z V ?_|refine v8 ?_ (hq:=h1)|refine v8 ?_ (hq:=D)));(all_goals rfl))
end Go.Proofs
namespace Go.Proofs
open Go.cw
def Fit(t:Ty)(v:Vl):Prop:=gN t v=true/\aH v<=25000000
def ew:L Ty->L Vl->Prop
 |[],[]=>True
 |t::s,v::l=>Fit t v/\ew s l
 |_,_=>False
def bL:∀{s:L Ty}{l:L Vl},ew s l->s.length=l.length
 |[],[],_=>rfl
 |t::s,v::l,h=>by simp only[aag,bL h.2]
 |[],_::_,h=>h.elim
 |_::_,[],h=>h.elim
def WR{l:L Vl}(h:ew [] l):l=[]:=by
 cases l with
 |nil=>rfl
 |cons _ _=>exact h.elim
def aW{t:Ty}{s:L Ty}{l:L Vl}(h:ew (t::s) l):∃v q,l=v::q/\Fit t v/\ew s q:=by
 cases l with
 |nil=>exact h.elim
 |cons v q=>exact⟨v,q,Z,h.1,h.2⟩
def HI:∀{s:L Ty}{l:L Vl}{i:Nat}{t:Ty},ew s l->s[i]?=some t->∃v,l[i]?=some v/\Fit t v
 |t::s,v::l,0,u,h,e=>⟨v,rfl,by simp at e;subst e;exact h.1⟩
 |t::s,v::l,i+1,u,h,e=>HI (i:=i) h.2 (by simpa using e)
 |[],_,_,_,_,e=>by simp at e
 |_::_,[],_,_,h,_=>h.elim
def DA:∀{s:L Ty}{l:L Vl}(i:Nat),ew s l->ew (s.take i) (l.take i)
 |_,_,0,_=>trivial
 |t::s,v::l,i+1,h=>⟨h.1,DA i h.2⟩
 |[],[],i+1,_=>trivial
 |[],_::_,_+1,h=>h.elim
 |_::_,[],_+1,h=>h.elim
def DB:∀{s:L Ty}{l:L Vl}(i:Nat),ew s l->ew (s.drop i) (l.drop i)
 |_,_,0,h=>h
 |t::s,v::l,i+1,h=>DB (s:=s) (l:=l) i h.2
 |[],[],i+1,_=>trivial
 |[],_::_,_+1,h=>h.elim
 |_::_,[],_+1,h=>h.elim
def Ci:∀{s r:L Ty}{l m:L Vl},ew s l->ew r m->ew (s++r) (l++m)
 |[],_,[],_,_,h=>h
 |t::s,_,v::l,_,h,h2=>⟨h.1,Ci h.2 h2⟩
 |[],_,_::_,_,h,_=>h.elim
 |_::_,_,[],_,h,_=>h.elim
def aE(P:Int)(M:L Nd)(S:bZ):MR:=match ki (bY P) S.st with
 |some (l,r)=>A3 P M l {S with st:=r}
 |none=>(14,{S with st:=[]})
def bQ(S:bZ)(r:L Ty×Bool)(o:MR):Prop :=
 (o.1=0/\o.2.fr=S.fr/\ew r.1 o.2.st/\r.2=false)\/o.1=11\/o.1=13
def bg(A:Int)(K:L UInt8)(P:Int)(M:L Nd)(S:bZ):Prop:=cH 109 S [.c (aM (.mk 2 A P K M))] (ag (aE P M S).1) (aE P M S).2
def Fm:∀(l st:L Vl),(oK l st).1=13\/((oK l st).1=0/\(oK l st).2=l.reverse++st/\∀v∈l,gX v<=200)
 |[],st => .inr ⟨Z,Z,λv h=>by simp at h⟩
 |x::l,st=>by
  unfold oK;by_cases h:gX x>200;grind;rw[if_neg h];rcases Fm l (x::st)with h1|⟨h1,h2,K⟩
  omega;grind
def Mr{t:Ty}{v:Vl}(h:gN t v=true)(C:gX v<=200):Fit t v:=⟨h,by have:=CO h;omega⟩
def cg{S:bZ}{s:L Ty}{t:Ty}{v:Vl}(h:gN t v=true)(C:ew s S.st):bQ S (t::s,false) (aY S [v]):=by
 rcases Fm [v] S.st with h1|⟨h1,h2,K⟩
 exact .inr (.inr h1);refine .inl ⟨h1,Z,?_,Z⟩;show ew _ (oK [v] S.st).2;rw[h2];exact⟨Mr h (K v cc),C⟩
def LK{S:bZ}{s:L Ty}{t u:Ty}{v w:Vl}(h:gN t v=true)(H:gN u w=true)(C:ew s S.st):bQ S (t::u::s,false) (aY S [w,v]):=by
 rcases Fm [w,v] S.st with h1|⟨h1,h2,K⟩
 exact .inr (.inr h1);refine .inl ⟨h1,Z,?_,Z⟩;show ew _ (oK [w,v] S.st).2;rw[h2];exact⟨Mr h (K v cc),Mr H (K w cc),C⟩
def lu{P:Int}{M:L Nd}{V:L Ty}(h:bP P M=some V):M.length=(gH P).length/\ku (gH P) M []=some V:=by unfold bP at h;simp_all
def cK{P:Int}{M:L Nd}{V:L Ty}(h:bP P M=some V)(C:gH P=[]):M=[]/\V=[]:=by obtain⟨h1,h2⟩:=lu h;rw[C]at h1 h2;obtain rfl:=List.length_eq_zero_iff.1 h1;cases h2;exact⟨rfl,rfl⟩
def HJ{P:Int}{M:L Nd}{V:L Ty}(h:bP P M=some V)(C:gH P=[110]):∃N p q x,M=[.mk 0 (N:Nat) p q x]/\N<=40/\V=[]:=by obtain⟨h1,h2⟩:=lu h;rw[C]at h1 h2;obtain⟨y,rfl⟩:=List.length_eq_one_iff.1 h1;obtain⟨Y,N,p,q,x⟩:=y;simp only[ku,if_true]at h2;split at h2;rename_i c;obtain⟨rfl,u,K⟩:=c;cases h2;exact⟨N.toNat,p,q,x,by rw[Int.toNat_of_nonneg u],ai,rfl⟩;grind
def abn:bY 40=1:=by decide +kernel
def abo:bY 41=0:=by decide +kernel
def abp:bY 42=2:=by decide +kernel
def abq:bY 43=0:=by decide +kernel
def abr:bY 44=1:=by decide +kernel
def Sl(S:bZ)(A:Int)(K:L UInt8)(M:L Nd)(V s:L Ty)(r:L Ty×Bool)(hf:bP 40 M=some V)(C:ew s S.st)(I:s.length<=340)(Y:iD 40 M s=(r,0)):bg A K 40 M S/\bQ S r (aE 40 M S):=by
 obtain⟨a,b,c,d,st,H,g,u,m,Q⟩:=S;obtain⟨rfl,rfl⟩:=cK hf bn;have E:=bL C;cases s with
 |nil=>cases Y
 |cons t s =>
  obtain⟨v,q,rfl,N,hq⟩:=aW C;cases Y;have e:aE 40 [] ⟨a,b,c,d,v::q,H,g,u,m,Q⟩=(0,⟨a,b,c,d,q,H,g,u,m,Q⟩):=by unfold aE;rfl
  exact⟨vp _ _ 2 A 40 K [] [v] q 0 bn (by rw[abn];rfl) (by simp at *;omega) (U0 _ A K [v]),.inl ⟨Z,Z,hq,Z⟩⟩
def Sn(S:bZ)(A:Int)(K:L UInt8)(M:L Nd)(V s:L Ty)(r:L Ty×Bool)(hf:bP 42 M=some V)(C:ew s S.st)(I:s.length<=340)(Y:iD 42 M s=(r,0)):bg A K 42 M S/\bQ S r (aE 42 M S):=by
 obtain⟨a,b,c,d,st,H,g,u,m,Q⟩:=S;obtain⟨rfl,rfl⟩:=cK hf bn;have E:=bL C;rcases s with _|⟨T,_|⟨P,s⟩⟩
 cases Y;cases Y;obtain⟨v,O,rfl,N,U⟩:=aW C;obtain⟨w,q,rfl,W,hq⟩:=aW U;cases Y;have e:aE 42 [] ⟨a,b,c,d,v::w::q,H,g,u,m,Q⟩=aY ⟨a,b,c,d,q,H,g,u,m,Q⟩ [v,w]:=by unfold aE;rfl
 simp at E I;exact⟨vp _ _ 2 A 42 K [] [v,w] q _ bn (by rw[abp];rfl) ob (U3 ⟨a,b,c,d,q,H,g,u,m,Q⟩ A K v w (by have:=N.2;omega) (by have:=W.2;omega) (by show q.length<=_;omega)),LK (S:=⟨a,b,c,d,q,H,g,u,m,Q⟩) W.1 N.1 hq⟩
def TX{α:Type}{l:List α}{i:Nat}{d:α}(h:i<l.length):l[i]?=some (l.getD i d):=by simp_all
def VF(S:bZ)(A:Int)(K:L UInt8)(M:L Nd)(V s:L Ty)(r:L Ty×Bool)(hf:bP 41 M=some V)(C:ew s S.st)(P:s.length<=340)(I:iD 41 M s=(r,0)):bg A K 41 M S/\bQ S r (aE 41 M S):=by
 obtain⟨a,b,c,d,st,H,g,u,m,Q⟩:=S;obtain⟨N,p,q,x,rfl,O,rfl⟩:=HJ hf bn;have E:=bL C;simp only at C E;have W:(if 1<=(N:Int)/\(N:Int)<=s.length/\ni (s.getD ((N:Int)-1).toNat lJ)=true then gy (s.getD ((N:Int)-1).toNat lJ::s)else bw 5)=(r,0):=I;split at W
 ·rename_i J;cases W;rw[show((N:Int)-1).toNat=N-1 from by omega];have T:=TX (l:=s) (i:=N-1) (d:=lJ) ai;obtain⟨v,U,Y⟩:=HI C T;have e:aE 41 [.mk 0 (N:Nat) p q x] ⟨a,b,c,d,st,H,g,u,m,Q⟩=aY ⟨a,b,c,d,st,H,g,u,m,Q⟩ [v]:=by show aY _ [lV st ((N:Int).toNat-1)]=_;rw[abU,Yc U]
  unfold bg;rw[e];exact⟨vp _ _ 2 A 41 K _ [] st _ bn (by rw[abo];rfl) Wm (Yd ⟨a,b,c,d,st,H,g,u,m,Q⟩ A K N p q x [] v ai U (by have:=Y.2;omega) Wm),cg (S:=⟨a,b,c,d,st,H,g,u,m,Q⟩) Y.1 C⟩
 cases W
def VG(S:bZ)(A:Int)(K:L UInt8)(M:L Nd)(V s:L Ty)(r:L Ty×Bool)(hf:bP 43 M=some V)(C:ew s S.st)(P:s.length<=340)(I:iD 43 M s=(r,0)):bg A K 43 M S/\bQ S r (aE 43 M S):=by
 obtain⟨a,b,c,d,st,fr,g,u,m,said⟩:=S;obtain⟨N,p,q,x,rfl,T,rfl⟩:=HJ hf bn;have E:=bL C;simp only at C E;have Y:(if(N:Int)<s.length then gy (s.getD (N:Int).toNat lJ::(s.take (N:Int).toNat++s.drop ((N:Int).toNat+1)))else bw 5)=(r,0):=I;split at Y
 ·rename_i O;cases Y;have Q:=TX (l:=s) (i:=N) (d:=lJ) ai;obtain⟨v,U,W⟩:=HI C Q;have e:aE 43 [.mk 0 (N:Nat) p q x] ⟨a,b,c,d,st,fr,g,u,m,said⟩=(0,⟨a,b,c,d,v::(st.take N++st.drop (N+1)),fr,g,u,m,said⟩):=by show((0,{self:=a,iY:=b,iZ:=c,balance:=d,st:=lV st (N:Int).toNat::(st.take (N:Int).toNat++st.drop ((N:Int).toNat+1)),fr:=fr,bU:=g,used:=u,au:=m,said:=said}):MR)=_;rw[abU,Yc U]
  unfold bg;rw[e];exact⟨vp _ _ 2 A 43 K _ [] st _ bn (by rw[abq];rfl) Wm (Yf ⟨a,b,c,d,st,fr,g,u,m,said⟩ A K N p q x [] v U Wm),.inl ⟨Z,Z,⟨W,Ci (DA N C) (DB (N+1) C)⟩,Z⟩⟩
 cases Y
def VH(S:bZ)(A:Int)(K:L UInt8)(M:L Nd)(V s:L Ty)(r:L Ty×Bool)(hf:bP 44 M=some V)(C:ew s S.st)(P:s.length<=340)(I:iD 44 M s=(r,0)):bg A K 44 M S/\bQ S r (aE 44 M S):=by
 obtain⟨a,b,c,d,st,H,g,u,m,Q⟩:=S;obtain⟨N,p,q,x,rfl,U,rfl⟩:=HJ hf bn;have E:=bL C;cases s with
 |nil=>cases I
 |cons t s =>
  obtain⟨v,st,rfl,W,hq⟩:=aW C;simp at E P;have Y:(if(N:Int)<s.length+1 then gy (s.take (N:Int).toNat++t::s.drop (N:Int).toNat)else bw 5)=(r,0):=I;split at Y;rename_i T;cases Y;have e:aE 44 [.mk 0 (N:Nat) p q x] ⟨a,b,c,d,v::st,H,g,u,m,Q⟩=(0,⟨a,b,c,d,st.take N++v::st.drop N,H,g,u,m,Q⟩):=(by rfl);exact⟨vp _ _ 2 A 44 K _ [v] st _ bn (by rw[abr];rfl) (by show(v::st).length<=_;simp;omega) (Yh ⟨a,b,c,d,st,H,g,u,m,Q⟩ A K N p q x v (by show N<=st.length;omega) Wm),.inl ⟨Z,Z,Ci (DA N hq) ⟨W,DB N hq⟩,Z⟩⟩;cases Y
def R3(P:Int)(q:40<=P/\P<=44)(S:bZ)(A:Int)(K:L UInt8)(M:L Nd)(V s:L Ty)(r:L Ty×Bool)(hf:bP P M=some V)(C:ew s S.st)(I:s.length<=340)(Y:iD P M s=(r,0)):bg A K P M S/\bQ S r (aE P M S):=by
 rcases(show P=40\/P=41\/P=42\/P=43\/P=44 by omega)with rfl|rfl|rfl|rfl|rfl
 exact Sl S A K M V s r hf C I Y;exact VF S A K M V s r hf C I Y;exact Sn S A K M V s r hf C I Y;exact VG S A K M V s r hf C I Y;exact VH S A K M V s r hf C I Y
def ja{k n a:Int}{s:L UInt8}{M:L Vl}{V:L Ty}{code:L Nd}{t:Ty}(h:bE (.mk k n a s M V code) t=true):k=dD t/\cA (.mk k n a s M V code)=true/\s.length<=200:=by
 unfold bE at h;by_cases Y:k≠dD t\/cA (.mk k n a s M V code)=false\/200<s.length;grind;refine⟨agq λO=>Y (.inl O),?_,ai⟩;cases hq:cA (.mk k n a s M V code)with
 |true=>rfl
 |false=>exact absurd (.inr (.inl hq)) Y
def gw{v:Vl}{T:Int}{ts:L Ty}(C:T=2\/T=3\/T=4\/T=5\/T=7)(h:bE v (.mk T ts)=true):∃n,v=aK T n/\bE (aK T n) (.mk T ts)=true:=by
 obtain⟨k,n,a,s,M,V,code⟩:=v;obtain⟨A,S,B⟩:=ja h;subst A;have:M=[]/\a=0/\s=[]/\V=[]/\code=[]:=by rcases C with rfl|rfl|rfl|rfl|rfl<;>simp[bE,cA]at h S<;>simp_all
 obtain⟨rfl,rfl,rfl,rfl,rfl⟩:=this;exact⟨n,Z,h⟩
def YK{v:Vl}{ts:L Ty}(h:bE v (.mk 2 ts)=true):v=aK 2 0\/v=aK 2 1:=by
 obtain⟨n,rfl,h⟩:=gw (.inl rfl) h;have:0<=n/\n<=1:=by simpa[bE,cA,aK,dD]using h
 grind
def oN{T n:Int}{ts:L Ty}(h:(T=2/\0<=n/\n<=1)\/(T=3 /\ -bJ<=n/\n<=bJ)\/(T=4/\0<=n/\n<=bJ)\/(T=5/\0<=n/\n<=bJ)\/(T=7/\0<=n/\n<12)):bE (aK T n) (.mk T ts)=true/\eU (aK T n)=true:=by
 rcases h with ⟨rfl,h⟩|⟨rfl,h⟩|⟨rfl,h⟩|⟨rfl,h⟩|⟨rfl,h⟩
 all_goals simp[bE,cA,aK,dD,eU,ej,h]
def RE{T n:Int}{ts:L Ty}(h:bE (aK T n) (.mk T ts)=true):(T=2->0<=n/\n<=1)/\(T=3 -> -bJ<=n/\n<=bJ)/\(T=4->0<=n/\n<=bJ)/\(T=5->0<=n/\n<=bJ)/\(T=7->0<=n/\n<12):=by refine⟨?_,?_,?_,?_,?_⟩<;>(rintro rfl;simpa[bE,cA,aK,dD]using h)
def uG{v:Vl}{t u:Ty}(h:bE v (.mk 11 [t,u])=true)(C:eU v=true):∃x y,v=bh x y/\(bE x t=true/\eU x=true)/\(bE y u=true/\eU y=true):=by
 obtain⟨k,n,a,s,M,V,code⟩:=v;obtain⟨A,S,_⟩:=ja h;subst A;simp[cA]at S;simp[bE,cA,dD,aV]at h;obtain⟨rfl,rfl,rfl,rfl⟩:=S;rcases M with _|⟨x,_|⟨y,_|⟨z,r⟩⟩⟩
 grind;grind;simp[dA,eU,ej]at h C;exact⟨x,y,by rw[h.1];rfl,⟨h.2.1,C.1⟩,⟨h.2.2,C.2⟩⟩;grind
def ld{x y:Vl}{t u:Ty}(h1:bE x t=true/\eU x=true)(h2:bE y u=true/\eU y=true):bE (bh x y) (.mk 11 [t,u])=true/\eU (bh x y)=true:=by simp[bh,bE,cA,dD,aV,dA,eU,ej,h1,h2]
def TF{v:Vl}{t:Ty}(h:bE v (.mk 9 [t])=true)(C:eU v=true):v=cD []\/∃x,v=cD [x]/\bE x t=true/\eU x=true:=by
 obtain⟨k,n,a,s,M,V,code⟩:=v;obtain⟨A,S,_⟩:=ja h;subst A;simp[cA]at S;simp[bE,cA,dD]at h;obtain⟨rfl,rfl,rfl,rfl⟩:=S;rcases M with _|⟨x,_|⟨y,r⟩⟩
 exact .inl (by simp at h;rw[h.1];rfl);simp[aL,eU,ej]at h C;exact .inr ⟨x,by rw[h.1];rfl,h.2,C⟩;grind
def oO{t:Ty}:bE (cD []) (.mk 9 [t])=true/\eU (cD [])=true:=by simp[cD,bE,cA,dD,aL,eU,ej]
def jK{x:Vl}{t:Ty}(h:bE x t=true/\eU x=true):bE (cD [x]) (.mk 9 [t])=true/\eU (cD [x])=true:=by simp[cD,bE,cA,dD,aU,aV,aL,eU,ej,h]
def xW{v:Vl}{t:Ty}(h:bE v (.mk 10 [t])=true)(C:eU v=true):∃l,v = .mk 10 0 0 [] l [] []/\l.length<=24/\aL l t=true/\ej l=true:=by obtain⟨k,n,a,s,M,V,code⟩:=v;obtain⟨A,S,_⟩:=ja h;simp only[dD]at A;subst A;simp[cA]at S;simp[bE]at h;obtain⟨rfl,rfl,rfl,rfl⟩:=S;exact⟨M,by rw[h.2.1.1],h.2.1.2,h.2.2,C⟩
def Hl{l:L Vl}{t:Ty}(I:l.length<=24)(h:aL l t=true)(C:ej l=true):bE (.mk 10 0 0 [] l [] []) (.mk 10 [t])=true/\eU (.mk 10 0 0 [] l [] [])=true:=by simp[bE,cA,dD,aU,aV,eU,h,C,I]
def ad2{v:Vl}{t u:Ty}(h:bE v (.mk 12 [t,u])=true)(C:eU v=true):∃x,(v = .mk 12 0 0 [] [x] [] []/\bE x t=true\/v = .mk 12 1 0 [] [x] [] []/\bE x u=true)/\eU x=true:=by
 obtain⟨k,n,a,s,M,V,code⟩:=v;obtain⟨A,S,_⟩:=ja h;subst A;simp[cA]at S;simp[bE,dD]at h;obtain⟨rfl,rfl,rfl,rfl⟩:=S;rcases M with _|⟨x,_|⟨y,r⟩⟩
 grind
 ·simp[aL,eU,ej]at h C;rcases(show n=0\/n=1 by omega)with rfl|rfl
  exact⟨x,.inl ⟨Z,by simpa[aU,aV]using h.2⟩,C⟩;exact⟨x,.inr ⟨Z,by simpa[aU,aV]using h.2⟩,C⟩
 grind
def abt{x:Vl}{t u:Ty}(h:bE x t=true/\eU x=true):bE (.mk 12 0 0 [] [x] [] []) (.mk 12 [t,u])=true/\eU (.mk 12 0 0 [] [x] [] [])=true:=by simp[bE,cA,dD,aU,aV,aL,eU,ej,h]
def abu{x:Vl}{t u:Ty}(h:bE x u=true/\eU x=true):bE (.mk 12 1 0 [] [x] [] []) (.mk 12 [t,u])=true/\eU (.mk 12 1 0 [] [x] [] [])=true:=by simp[bE,cA,dD,aU,aV,aL,eU,ej,h]
end Go.Proofs
