/- Methods of package run's machine that keep its blocks' names; -/
import Derived.Test.YtdnpapgijbhofaaGreatDoorRunERt
import Derived.Test.YtdnpapgijbhofaaGreatDoorRun3Rt
open Go.IntKind
open Go.Proofs.Tryz
set_option linter.defProp false
set_option maxHeartbeats 0
set_option linter.unusedVariables false
set_option linter.unusedSimpArgs false
set_option maxRecDepth 100000
namespace Go.Proofs
open Go.cB
def v9(f:FuncId)(S:bE)(args:L AV)(r:CV)(S':bE):Prop :=
 rK f (mI (mC S) (bB (sR S.st)) (bB (fR S.fr))) (.ptr 1000000 0::args) (.c r) (mI (mC S') (bB (sR S'.st)) (bB (fR S'.fr)))
def OV{f:FuncId}{n:Nat}{β:jq}{K:L Item}{env:Env}{P:Func}(hf:Tryz.prog.funcs[f]?=some P){bs:L (Nat×L AV)}{ts:L (Nat×Nat)}{us:L Nat}{l:L AV}(A:sV Tryz.X bs env P.results.toList=some l)
  {v:CV}(W:close (BM l)=some v){S':bE}{cells q Y:L AV}(h1:ak 1000000 bs=some cells)(B:cells=mC S' 1000001 1000002)(h2:ak 1000001 bs=some q)(V:q=ah (sR S'.st))(U:ak 1000002 bs=some Y)(T:Y=ah (fR S'.fr)){r:CV}(S:v=r) :
  Ey f n β (HR β (.c r) (mI (mC S') (bB (sR S'.st)) (bB (fR S'.fr)))) (.code .ret::K) env ⟨bs,ts,us⟩:=by
 subst B V T S;refine AK.Dv (.inl ⟨_,Z⟩) hX hf A [(1000000,1000000),(1000001,1000001),(1000002,1000002)] Z (.inr W) ⟨⟨_,_,Z,h1,(DD S').conv _ _ _ _ _ _ Z Z⟩,⟨_,_,Z,h2,dr _⟩,⟨_,_,Z,U,dr _⟩,trivial⟩
def uMK{ops:Array Oper}{o:Oper}{rest:L Oper}{env:Env}{acc:L Fp}{Q:Env->St->L Fp->Prop}{bs:L (Nat×L AV)}{ts:L (Nat×Nat)}{us:L Nat}(G:cP ops.toList kn env o=some true){f:FuncId}{args:Array Operand}{B:Array TypeId}(T:o.op = .call {callee := .value (.func f),args:=args,argTypes:=B})
  {S S':bE}{p:L AV}{r:CV}(hq:v9 f S p r S'){d:Nat}(J:o.dst=some d)
  {l:L AV}(P:gq (aH Tryz.X env) args.toList=some l){Y:Nat}{D:L AV}(W:l = .ptr Y 0::D){E N:Nat}{V q U:L AV}(h1:ak Y bs=some V)(O:V=mC S E N)(h2:ak E bs=some q)(M:q=ah (sR S.st))(K:ak N bs=some U)(I:U=ah (fR S.fr))
  (H:∀ts,fO ⟨λk=>ak k [(1000000,Y),(1000001,E),(1000002,N)],λ_=>none⟩ ts p D)(C:Go.cB.distinct [Y,E,N]=true)
  {bs':L (Nat×L AV)}(A:lJ [Y,E,N] bs=bs')
  (k:ov ops rest ((d,.c r)::env) ⟨(Y,mC S' E N)::(E,ah (sR S'.st))::(N,ah (fR S'.fr))::bs',ts,Y::E::N::us⟩ (⟨[],[Y,E,N,Y,E,N,Y,E,N]⟩::acc) Q):ov ops (o::rest) env ⟨bs,ts,us⟩ acc Q:=by
 subst W;exact ai.XP kn G T hq (DD S) (DD S') J P Z h1 O h2 M K I (λts=>⟨_,_,Z,⟨_,fk,Z⟩,H ts⟩) C Z Z A k
def K4{ops:Array Oper}{o:Oper}{rest:L Oper}{env:Env}{acc:L Fp}{Q:Env->St->L Fp->Prop}{bs:L (Nat×L AV)}{ts:L (Nat×Nat)}{us:L Nat}{f:FuncId}{args:Array Operand}{B:Array TypeId}{S S':bE}{p:L AV}{r:CV}{d:Nat}{l:L AV}{Y:Nat}{D:L AV}{E N:Nat}{V q U:L AV}{bs':L (Nat×L AV)}(k:ov ops rest ((d,.c r)::env) ⟨(Y,mC S' E N)::(E,ah (sR S'.st))::(N,ah (fR S'.fr))::bs',ts,Y::E::N::us⟩ (⟨[],[Y,E,N,Y,E,N,Y,E,N]⟩::acc) Q)(G:cP ops.toList kn env o=some true:=by exact rfl)(T:o.op = .call {callee := .value (.func f),args:=args,argTypes:=B}:=by exact rfl)(hq:v9 f S p r S':=by assumption)(J:o.dst=some d:=by exact rfl)(P:gq (aH Tryz.X env) args.toList=some l:=by exact rfl)(W:l = .ptr Y 0::D:=by exact rfl)(h1:ak Y bs=some V:=by exact rfl)(O:V=mC S E N:=by exact rfl)(h2:ak E bs=some q:=by exact rfl)(M:q=ah (sR S.st):=by exact rfl)(K:ak N bs=some U:=by exact rfl)(I:U=ah (fR S.fr):=by exact rfl)(H:∀ts,fO ⟨λk=>ak k [(1000000,Y),(1000001,E),(1000002,N)],λ_=>none⟩ ts p D:=by intro _;repeat' (first|exact rfl|refine cvA rfl ?_|refine cvP rfl ?_))(C:Go.cB.distinct [Y,E,N]=true:=by exact rfl)(A:lJ [Y,E,N] bs=bs':=by exact rfl): ov ops (o::rest) env ⟨bs,ts,us⟩ acc Q:=uMK G T hq J P W h1 O h2 M K I H C A k
def OU(f:gB)(t:List gB):gl (0+t.length*4+1) (ah (fR (f::t)))=some [.c (aA (f.pos:Nat)),.c (aA f.fin),.c (.sl 7 (aa f.aside))]:=vQ _ 1 _ _ _ (xI f t) rfl
def tM(f:gB)(t:List gB):gl (0+t.length*4+2) (ah (fR (f::t)))=some [.c (aA f.fin),.c (.sl 7 (aa f.aside))]:=vQ _ 2 _ _ _ (xI f t) rfl
def D3(f:gB)(t:List gB):gl (0+t.length*4+3) (ah (fR (f::t)))=some [.c (.sl 7 (aa f.aside))]:=vQ _ 3 _ _ _ (xI f t) rfl
def OW(f:gB)(t:List gB):dH (0+t.length*4+1) [.c (aA 0)] (ah (fR (f::t)))=some (ah (fR ({f with pos:=0}::t))):=Dz f t 0
attribute [local irreducible] AK ai aR bW dG dR lF
def OX(S:bE)(h:S.nV<=S.used):v9 108 S [] (aA 12) S:=by
 have D:decide (S.used>=S.nV)=true:=aam h;refine dG.of func108 Z (λargs w=>call108 args w) (abf Z) [(0,.ptr 1000000 0)] ⟨[(1000000,mC (S) 1000001 1000002),(1000001,ah (sR (S).st)),(1000002,ah (fR (S).fr))],[],[1000000,1000001,1000002]⟩ Z Z λβ=>?_;have hf:=func108
 repeat' (first|refine mQ ?_|refine zc ?_ ?_|(intro h;first|(cases h;done)|rw[h]|skip))
 exact aaQ
def OY(S:bE)(h:S.used<S.nV)(h1:OB S.nV)(h2:0<=S.used):v9 108 S [] (aA 0) {S with used:=S.used+1}:=by
 have D:decide (S.used>=S.nV)=false:=aan bn;have V:i64.wrap (S.used+1)=S.used+1:=gM bn (by have:=h1.2;omega);refine dG.of func108 Z (λargs w=>call108 args w) (abf Z) [(0,.ptr 1000000 0)] ⟨[(1000000,mC (S) 1000001 1000002),(1000001,ah (sR (S).st)),(1000002,ah (fR (S).fr))],[],[1000000,1000001,1000002]⟩ Z Z λβ=>?_;have hf:=func108
 repeat' (first|refine mQ ?_|refine zc ?_ ?_|(intro h;first|(cases h;done)|rw[h]|skip))
 rw[V];exact aaQ
def TO(S:bE)(h:S.st=[]):v9 131 S [] (.fG [bA qp,.bool false]) S:=by
 obtain⟨a,b,c,d,st,I,g,u,m,B⟩:=S;simp only at h;subst h;have D:decide (i64.wrap (((([]:L Vl).length:Nat):Int)-1)<0)=true:=by decide
 refine dG.of func131 Z (λargs w=>call131 args w) (abf Z) [(0,.ptr 1000000 0)] ⟨[(1000000,mC (bE.mk a b c d [] I g u m B) 1000001 1000002),(1000001,ah (sR (bE.mk a b c d [] I g u m B).st)),(1000002,ah (fR (bE.mk a b c d [] I g u m B).fr))],[],[1000000,1000001,1000002]⟩ Z Z λβ=>?_;have hf:=func131
 repeat' (first|refine mQ ?_|refine zc ?_ ?_|(intro h;first|(cases h;done)|rw[h]|skip))
 exact aaQ
def AD(S:bE)(v:Vl)(t:L Vl)(h:S.st=v::t)(U:t.length<=1099511627776):v9 131 S [] (.fG [bA v,.bool true]) {S with st:=t}:=by
 obtain⟨a,b,c,d,st,I,g,u,m,B⟩:=S;simp only at h;subst h;have V:i64.wrap ((((v::t).length:Nat):Int)-1)=(t.length:Nat):=by rw[gM ek ek];simp only[aaa];omega
 have D:decide (i64.wrap ((((v::t).length:Nat):Int)-1)<0)=false:=by rw[V];exact aan bn
 obtain⟨k,n,W,s,args,types,H⟩:=v;have Y:=Hu k n W s args types H t;refine dG.of func131 Z (λargs w=>call131 args w) (abf Z) [(0,.ptr 1000000 0)] ⟨[(1000000,mC (bE.mk a b c d (.mk k n W s args types H::t) I g u m B) 1000001 1000002),(1000001,ah (sR (bE.mk a b c d (.mk k n W s args types H::t) I g u m B).st)),(1000002,ah (fR (bE.mk a b c d (.mk k n W s args types H::t) I g u m B).fr))],[],[1000000,1000001,1000002]⟩ Z Z λβ=>?_;have hf:=func131
 repeat' (first|refine mQ ?_|refine zc ?_ ?_|(intro h;first|(cases h;done)|rw[h]|skip)|refine ai.iT hX kn Z Z Z Z Z Z Z Z Z t.length V (abl _) ?_|refine ai.gm hX kn Z Z Z Z Z Z Y Z ?_|refine ai.B1 hX kn Z Z Z Z Z Z Z Z Z Z Z Z t.length V (adh _) ?_)
 refine AK.uL 1000001 (ah (sR t)) _ Z (DF _ _) Z ?_;exact aaQ
def Qg{X:Go.cB.Ctx}{env:Env}{y:Operand}{z:Int}{Q:IntKind}{h:Nat}(q:aH X env y=some (.c (.int Q z)))(Y:z=h):bound (aH X env) (some y)=some (some h):=by subst Y;simp only[bound,q,asNat]
def yz(S:bE)(F:gB)(t:List gB)(h:S.fr=F::t)(M:F.fin=0)(W:t.length<=1099511627776):b8 106 S [.ptr 1000002 (0+t.length*4)] (aA 0) {S with fr:=t}:=by
 obtain⟨a,b,c,d,P,fr,g,u,m,B⟩:=S;obtain⟨H,V,fin,T⟩:=F;simp only at h M;subst h M;have h2:=tM ⟨H,V,0,T⟩ t;have Y:i64.wrap ((((gB.mk H V 0 T::t).length:Nat):Int)-1)=(t.length:Nat):=by rw[gM ek ek];simp only[aaa];omega
 refine mn func106 call106 λβ hf=>?_
 repeat' ((fail_if_success (refine ki 28 ?_));first|refine mQ ?_|refine zc ?_ ?_|(intro h;first|(cases h;done)|rw[h]|skip)|refine AK.skip ?_|refine AK.seq ?_|refine AK.block ?_|refine AK.exit Z ?_|refine ai.gm hX kn Z Z Z Z Z Z h2 Z ?_|refine ai.sliceB hX kn Z Z Z Z Z Z Z Z (l:=none) (h:=some t.length) Z (Qg Z Y) (adh _) (abG _) ?_|(refine uA Z ?_ ?_<;>(try (show(_:Nat)*_<=_;dsimp only))))
 refine AK.uL 1000002 (cells:=ah (fR (⟨H,V,0,T⟩::t))) (ah (fR t)) (ah [qY ⟨H,V,0,T⟩]) Z (lz _ _) Z ?_;exact dm
def Nr(a b c d:Int)(B:L Vl)(g u m:Int)(P:Vl)(H:L Nd)(V:Nat)(T:L Vl)(t:List gB)(C:B.length<=500000000)(W:T.length<=500000000)(S:t.length<=1099511627776):b8 106 ⟨a,b,c,d,B,⟨H,V,1,T⟩::t,g,u,m,P⟩ [.ptr 1000002 (0+t.length*4)] (aA 0) ⟨a,b,c,d,T.reverse++B,t,g,u,m,P⟩:=by
 have h2:=tM ⟨H,V,1,T⟩ t;have U:=D3 ⟨H,V,1,T⟩ t;have Y:i64.wrap (((((⟨H,V,1,T⟩:gB)::t).length:Nat):Int)-1)=(t.length:Nat):=by rw[gM ek ek];simp only[aaa];omega
 have M:sR B++aa T=sR (T.reverse++B):=by rw[sR,sR,adH,acB,ke]
 have A:((sR B).length+(aa T).length)*112<=140737488355328:=by rw[iG,az];omega
 refine mn func106 call106 λβ hf=>?_
 repeat' ((fail_if_success (refine ki 28 ?_));first|refine mQ ?_|refine zc ?_ ?_|(intro h;first|(cases h;done)|rw[h]|skip)|refine AK.skip ?_|refine AK.seq ?_|refine AK.block ?_|refine AK.exit Z ?_|refine ai.gm hX kn Z Z Z Z Z Z h2 Z ?_|refine ai.gm hX kn Z Z Z Z Z Z U Z ?_|refine ai.mB hX kn Z Z Z Z Z Z Z Z Z Z Z Z Z Z Z (sR B) [] (aba _).symm (iG _).symm (ta _) Z Z Z Z Z Z Z A M (m:=(T.reverse++B).length) (iG _) Z ?_|refine ai.sliceB hX kn Z Z Z Z Z Z Z Z (l:=none) (h:=some t.length) Z (Qg Z Y) (adh _) (abG _) ?_|(refine uA Z ?_ ?_<;>(try (show(_:Nat)*_<=_;dsimp only))))
 refine AK.uL 1000002 (cells:=ah (fR (⟨H,V,1,T⟩::t))) (ah (fR t)) (ah [qY ⟨H,V,1,T⟩]) Z (lz _ _) Z ?_;exact dm
def Ie(a b c d:Int)(P:L Vl)(g u m:Int)(B:Vl)(H:L Nd)(V:Nat)(T:L Vl)(t:List gB)(Y:t.length<=1099511627776):b8 106 ⟨a,b,c,d,[],⟨H,V,2,T⟩::t,g,u,m,B⟩ [.ptr 1000002 (0+t.length*4)] (aA 14) ⟨a,b,c,d,[],⟨H,V,2,T⟩::t,g,u,m,B⟩:=by
 have h2:=tM ⟨H,V,2,T⟩ t;have U:=D3 ⟨H,V,2,T⟩ t;have W:i64.wrap (((((⟨H,V,2,T⟩:gB)::t).length:Nat):Int)-1)=(t.length:Nat):=by rw[gM ek ek];simp only[aaa];omega
 refine mn func106 call106 λβ hf=>?_
 repeat' (first|refine mQ ?_|refine zc ?_ ?_|(intro h;first|(cases h;done)|rw[h]|skip)|refine AK.skip ?_|refine AK.seq ?_|refine AK.block ?_|refine AK.exit Z ?_|refine ai.gm hX kn Z Z Z Z Z Z h2 Z ?_|(refine uA Z ?_ ?_<;>(try (show(_:Nat)*_<=_;dsimp only))))
 all_goals rfl
def Ig(a b c d:Int)(v:Vl)(B:L Vl)(g u m:Int)(P:Vl)(H:L Nd)(V:Nat)(t:List gB)(I:B.length<=500000000)(N:t.length<=1099511627776):b8 106 ⟨a,b,c,d,v::B,⟨H,V,2,[]⟩::t,g,u,m,P⟩ [.ptr 1000002 (0+t.length*4)] (aA 0) ⟨a,b,c,d,[v],t,g,u,m,P⟩:=by
 have h2:=tM ⟨H,V,2,[]⟩ t;have U:=D3 ⟨H,V,2,[]⟩ t;have Y:i64.wrap (((((⟨H,V,2,[]⟩:gB)::t).length:Nat):Int)-1)=(t.length:Nat):=by rw[gM ek ek];simp only[aaa];omega
 have W:i64.wrap ((((B.length+1:Nat)):Int)-1)=(B.length:Nat):=by rw[gM bn bn];omega
 have M:((((B.length+1:Nat)):Int)==0)=false:=beq_eq_false_iff_ne.2 bn;obtain⟨q,K,T,C,p,S,Q⟩:=v;have O:=Hu q K T C p S Q B;refine mn func106 call106 λβ hf=>?_
 repeat' ((fail_if_success (refine ki 28 ?_));first|refine mQ ?_|refine zc ?_ ?_|(intro h;first|(cases h;done)|rw[h]|skip)|refine AK.skip ?_|refine AK.seq ?_|refine AK.block ?_|refine AK.exit rfl ?_|refine ai.gm hX kn rfl rfl rfl rfl rfl rfl h2 rfl ?_|refine ai.iT hX kn rfl rfl rfl rfl rfl rfl rfl rfl rfl B.length W (abl _) ?_|refine ai.gm hX kn rfl rfl rfl rfl rfl rfl O rfl ?_|refine ai.gm hX kn rfl rfl rfl rfl rfl rfl U rfl ?_|refine ai.xF kn rfl rfl (jm 7) rfl rfl (λ_=>⟨_,_,rfl,.inr rfl,rfl⟩) rfl rfl ?_|refine ai.vt hX kn rfl rfl rfl rfl rfl rfl rfl rfl rfl rfl rfl rfl rfl rfl rfl rfl rfl rfl (λh=>by cases h) rfl rfl rfl (show(0+1)*112<=140737488355328 by decide) rfl (m:=1) rfl ?_|refine ai.sliceB hX kn rfl rfl rfl rfl rfl rfl rfl rfl (l:=none) (h:=some t.length) rfl (Qg rfl Y) (adh _) (abG _) ?_|(refine uA rfl ?_ ?_<;>(try (show(_:Nat)*_<=_;dsimp only))))
 refine AK.uL 1000002 (cells:=ah (fR (⟨H,V,2,[]⟩::t))) (ah (fR t)) (ah [qY ⟨H,V,2,[]⟩]) Z (lz _ _) Z ?_;exact dm
def Ih(a b c d:Int)(v:Vl)(B:L Vl)(g u m:Int)(P:Vl)(H:L Nd)(V:Nat)(x:Vl)(q:L Vl)(t:List gB)(I:B.length<=500000000)(G:q.length<=500000000)(E:t.length<=1099511627776):b8 106 ⟨a,b,c,d,v::B,⟨H,V,2,(x::q)⟩::t,g,u,m,P⟩ [.ptr 1000002 (0+t.length*4)] (aA 0) ⟨a,b,c,d,v::(x::q).reverse,t,g,u,m,P⟩:=by
 have h2:=tM ⟨H,V,2,(x::q)⟩ t;have S:=D3 ⟨H,V,2,(x::q)⟩ t;have Q:i64.wrap (((((⟨H,V,2,(x::q)⟩:gB)::t).length:Nat):Int)-1)=(t.length:Nat):=by rw[gM ek ek];simp only[aaa];omega
 have O:i64.wrap ((((B.length+1:Nat)):Int)-1)=(B.length:Nat):=by rw[gM bn bn];omega
 have hz:((((B.length+1:Nat)):Int)==0)=false:=beq_eq_false_iff_ne.2 bn;obtain⟨J,K,W,C,p,Y,U⟩:=v;have N:=Hu J K W C p Y U B;have D:=eV x q bn;have M:aa (x::q)++aa [.mk J K W C p Y U]=sR (.mk J K W C p Y U::(x::q).reverse):=by rw[sR,ads,acB,ke]
 have T:(bB (aa (x::q))).length=(q.length+1)*7:=by rw[cV (rows:=aa (x::q)) (s:=7) (fW _),az];rfl
 have A:((aa (x::q)).length+1)*112<=140737488355328:=by rw[az,aaa];omega
 refine mn func106 call106 λβ hf=>?_
 repeat' ((fail_if_success (refine ki 28 ?_));first|refine mQ ?_|refine zc ?_ ?_|(intro h;first|(cases h;done)|rw[h]|skip)|refine AK.skip ?_|refine AK.seq ?_|refine AK.block ?_|refine AK.exit Z ?_|refine ai.gm hX kn Z Z Z Z Z Z h2 Z ?_|refine ai.iT hX kn Z Z Z Z Z Z Z Z Z B.length O (abl _) ?_|refine ai.gm hX kn Z Z Z Z Z Z N Z ?_|refine ai.gm hX kn Z Z Z Z Z Z S Z ?_|refine ai.kR kn Z Z Z Z Z Z D Z ?_|refine ai.mB hX kn Z Z Z Z Z Z Z Z Z Z Z Z Z Z Z (aa (x::q)) [] (aba _).symm (az (x::q)).symm T Z Z Z Z Z Z Z A M (m:=(Vl.mk J K W C p Y U::(x::q).reverse).length) (iG _) Z ?_|refine ai.sliceB hX kn Z Z Z Z Z Z Z Z (l:=none) (h:=some t.length) Z (Qg Z Q) (adh _) (abG _) ?_|(refine uA Z ?_ ?_<;>(try (show(_:Nat)*_<=_;dsimp only))))
 refine AK.uL 1000002 (cells:=ah (fR (⟨H,V,2,(x::q)⟩::t))) (ah (fR t)) (ah [qY ⟨H,V,2,(x::q)⟩]) Z (lz _ _) Z ?_;exact dm
def Ii(a b c d:Int)(P:L Vl)(g u m:Int)(B:Vl)(H:L Nd)(V:Nat)(t:List gB)(W:t.length<=1099511627776):b8 106 ⟨a,b,c,d,P,⟨H,V,3,[]⟩::t,g,u,m,B⟩ [.ptr 1000002 (0+t.length*4)] (aA 0) ⟨a,b,c,d,P,t,g,u,m,B⟩:=by
 have h2:=tM ⟨H,V,3,[]⟩ t;have U:=D3 ⟨H,V,3,[]⟩ t;have Y:i64.wrap (((((⟨H,V,3,[]⟩:gB)::t).length:Nat):Int)-1)=(t.length:Nat):=by rw[gM ek ek];simp only[aaa];omega
 refine mn func106 call106 λβ hf=>?_
 repeat' ((fail_if_success (refine ki 28 ?_));first|refine mQ ?_|refine zc ?_ ?_|(intro h;first|(cases h;done)|rw[h]|skip)|refine AK.skip ?_|refine AK.seq ?_|refine AK.block ?_|refine AK.exit Z ?_|refine ai.gm hX kn Z Z Z Z Z Z h2 Z ?_|refine ai.gm hX kn Z Z Z Z Z Z U Z ?_|refine ai.sliceB hX kn Z Z Z Z Z Z Z Z (l:=none) (h:=some t.length) Z (Qg Z Y) (adh _) (abG _) ?_|(refine uA Z ?_ ?_<;>(try (show(_:Nat)*_<=_;dsimp only))))
 refine AK.uL 1000002 (cells:=ah (fR (⟨H,V,3,[]⟩::t))) (ah (fR t)) (ah [qY ⟨H,V,3,[]⟩]) Z (lz _ _) Z ?_;exact dm
def Ij(a b c d:Int)(P:L Vl)(g u m:Int)(B:Vl)(H:L Nd)(V:Nat)(x:Vl)(q:L Vl)(t:List gB)(Q:g<=u)(Y:t.length<=1099511627776):b8 106 ⟨a,b,c,d,P,⟨H,V,3,x::q⟩::t,g,u,m,B⟩ [.ptr 1000002 (0+t.length*4)] (aA 12) ⟨a,b,c,d,P,⟨H,V,3,x::q⟩::t,g,u,m,B⟩:=by
 have h2:=tM ⟨H,V,3,x::q⟩ t;have U:=D3 ⟨H,V,3,x::q⟩ t;have W:i64.wrap (((((⟨H,V,3,x::q⟩:gB)::t).length:Nat):Int)-1)=(t.length:Nat):=by rw[gM ek ek];simp only[aaa];omega
 have D:=OX ⟨a,b,c,d,P,⟨H,V,3,x::q⟩::t,g,u,m,B⟩ Q;have T:decide ((((aa (x::q)).length:Nat):Int)>0)=true:=aam (by rw[az,aaa];omega);refine mn func106 call106 λβ hf=>?_
 repeat' (first|refine mQ ?_|refine zc ?_ ?_|(intro h;first|(cases h;done)|rw[h]|skip)|refine AK.skip ?_|refine AK.seq ?_|refine AK.block ?_|refine AK.exit Z ?_|refine ai.gm hX kn Z Z Z Z Z Z h2 Z ?_|refine ai.gm hX kn Z Z Z Z Z Z U Z ?_|refine K4 ?_ (hq:=D)|(refine uA Z ?_ ?_<;>(try (show(_:Nat)*_<=_;dsimp only))))
 all_goals rfl
def Ik(a b c d:Int)(B:L Vl)(g u m:Int)(P:Vl)(H:L Nd)(V:Nat)(x:Vl)(q:L Vl)(t:List gB)(Q:u<g)(E:OB g)(O:0<=u)(I:B.length<=500000000)(G:t.length<=1099511627776):b8 106 ⟨a,b,c,d,B,⟨H,V,3,x::q⟩::t,g,u,m,P⟩ [.ptr 1000002 (0+t.length*4)] (aA 0) ⟨a,b,c,d,x::B,⟨H,0,3,q⟩::t,g,u+1,m,P⟩:=by
 have h2:=tM ⟨H,V,3,x::q⟩ t;have N:=D3 ⟨H,V,3,x::q⟩ t;have hw:i64.wrap (((((⟨H,V,3,x::q⟩:gB)::t).length:Nat):Int)-1)=(t.length:Nat):=by rw[gM ek ek];simp only[aaa];omega
 have D:=OY ⟨a,b,c,d,B,⟨H,V,3,x::q⟩::t,g,u,m,P⟩ Q E O;have hc:decide ((((aa (x::q)).length:Nat):Int)>0)=true:=aam (by rw[az,aaa];omega);obtain⟨J,K,U,C,p,T,S⟩:=x;have M:=MM J K U C p T S B;have A:((sR B).length+1)*112<=140737488355328:=by rw[iG];omega
 have Y:=S0 ⟨H,V,3,.mk J K U C p T S::q⟩ t q;have W:=OW ⟨H,V,3,q⟩ t;refine mn func106 call106 λβ hf=>?_
 repeat' (first|refine mQ ?_|refine zc ?_ ?_|(intro h;first|(cases h;done)|rw[h]|skip)|refine AK.skip ?_|refine AK.seq ?_|refine AK.block ?_|refine AK.exit Z ?_|refine ai.gm hX kn Z Z Z Z Z Z h2 Z ?_|refine ai.gm hX kn Z Z Z Z Z Z N Z ?_|refine K4 ?_ (hq:=D)|refine uI Z (0) Z (Z) Z ?_|refine ai.mB hX kn Z Z Z Z Z Z Z Z Z Z Z Z Z Z Z (sR B) [] (aba _).symm (iG _).symm (ta _) Z Z Z Z Z Z Z A Z (m:=B.length+1) (by rw[aao,iG];rfl) Z ?_|refine ai.iT hX kn Z Z Z Z Z Z Z Z Z B.length Z (abl _) ?_|refine ai.store hX kn Z Z Z Z Z Z Z Z Z (M _ Z) Z ?_|refine ai.sliceFrom hX kn Z Z Z Z Z Z Z Z (m:=1) Z (Nat.succ_le_succ (abG _)) ?_|refine ai.store hX kn Z Z Z Z Z Z Z Z Z Y Z ?_|refine ai.store hX kn Z Z Z Z Z Z Z Z Z W Z ?_|(refine uA Z ?_ ?_<;>(try (show(_:Nat)*_<=_;dsimp only))))
 all_goals rfl
def Il(a b c d:Int)(P:L Vl)(g u m:Int)(B:Vl)(H:L Nd)(V:Nat)(T:L Vl)(t:List gB)(C:P.length<=500000000)(Y:t.length<=1099511627776):b8 106 ⟨a,b,c,d,[],⟨H,V,4,T⟩::t,g,u,m,B⟩ [.ptr 1000002 (0+t.length*4)] (aA 14) ⟨a,b,c,d,[],⟨H,V,4,T⟩::t,g,u,m,B⟩:=by
 have h2:=tM ⟨H,V,4,T⟩ t;have W:i64.wrap (((((⟨H,V,4,T⟩:gB)::t).length:Nat):Int)-1)=(t.length:Nat):=by rw[gM ek ek];simp only[aaa];omega
 have D:=TO ⟨a,b,c,d,[],⟨H,V,4,T⟩::t,g,u,m,B⟩ Z;refine mn func106 call106 λβ hf=>?_
 repeat' (first|refine mQ ?_|refine zc ?_ ?_|(intro h;first|(cases h;done)|rw[h]|skip)|refine AK.skip ?_|refine AK.seq ?_|refine AK.block ?_|refine AK.exit Z ?_|refine ai.gm hX kn Z Z Z Z Z Z h2 Z ?_|refine K4 ?_ (hq:=D)|(refine uA Z ?_ ?_<;>(try (show(_:Nat)*_<=_;dsimp only))))
 all_goals rfl
def Ip(a b c d:Int)(q K W:Int)(C:L UInt8)(p:L Vl)(Y:L Ty)(U:L Nd)(O:¬K=1)(B:L Vl)(g u m:Int)(P:Vl)(H:L Nd)(V:Nat)(T:L Vl)(t:List gB)(I:B.length<=500000000)(Q:t.length<=1099511627776):b8 106 ⟨a,b,c,d,.mk q K W C p Y U::B,⟨H,V,4,T⟩::t,g,u,m,P⟩ [.ptr 1000002 (0+t.length*4)] (aA 0) ⟨a,b,c,d,B,t,g,u,m,P⟩:=by
 have h2:=tM ⟨H,V,4,T⟩ t;have S:i64.wrap (((((⟨H,V,4,T⟩:gB)::t).length:Nat):Int)-1)=(t.length:Nat):=by rw[gM ek ek];simp only[aaa];omega
 have D:=AD ⟨a,b,c,d,.mk q K W C p Y U::B,⟨H,V,4,T⟩::t,g,u,m,P⟩ (.mk q K W C p Y U) B Z bn;have N:(K==1)=false:=beq_eq_false_iff_ne.2 O;refine mn func106 call106 λβ hf=>?_
 repeat' ((fail_if_success (refine ki 28 ?_));first|refine mQ ?_|refine zc ?_ ?_|(intro h;first|(cases h;done)|rw[h]|skip)|refine AK.skip ?_|refine AK.seq ?_|refine AK.block ?_|refine AK.exit Z ?_|refine ai.gm hX kn Z Z Z Z Z Z h2 Z ?_|refine K4 ?_ (hq:=D)|refine ai.sliceB hX kn Z Z Z Z Z Z Z Z (l:=none) (h:=some t.length) Z (Qg Z S) (adh _) (abG _) ?_|(refine uA Z ?_ ?_<;>(try (show(_:Nat)*_<=_;dsimp only))))
 refine AK.uL 1000002 (cells:=ah (fR (⟨H,V,4,T⟩::t))) (ah (fR t)) (ah [qY ⟨H,V,4,T⟩]) Z (lz _ _) Z ?_;exact dm
def Im(a b c d:Int)(q W:Int)(C:L UInt8)(p:L Vl)(Y:L Ty)(U:L Nd)(P:L Vl)(g u m:Int)(B:Vl)(H:L Nd)(V:Nat)(T:L Vl)(t:List gB)(Q:g<=u)(I:P.length<=500000000)(S:t.length<=1099511627776):b8 106 ⟨a,b,c,d,.mk q 1 W C p Y U::P,⟨H,V,4,T⟩::t,g,u,m,B⟩ [.ptr 1000002 (0+t.length*4)] (aA 12) ⟨a,b,c,d,P,⟨H,V,4,T⟩::t,g,u,m,B⟩:=by
 have h2:=tM ⟨H,V,4,T⟩ t;have O:i64.wrap (((((⟨H,V,4,T⟩:gB)::t).length:Nat):Int)-1)=(t.length:Nat):=by rw[gM ek ek];simp only[aaa];omega
 have D:=AD ⟨a,b,c,d,.mk q 1 W C p Y U::P,⟨H,V,4,T⟩::t,g,u,m,B⟩ (.mk q 1 W C p Y U) P Z bn;have hq:=OX ⟨a,b,c,d,P,⟨H,V,4,T⟩::t,g,u,m,B⟩ Q;refine mn func106 call106 λβ hf=>?_
 repeat' (first|refine mQ ?_|refine zc ?_ ?_|(intro h;first|(cases h;done)|rw[h]|skip)|refine AK.skip ?_|refine AK.seq ?_|refine AK.block ?_|refine AK.exit Z ?_|refine ai.gm hX kn Z Z Z Z Z Z h2 Z ?_|refine K4 ?_ (hq:=D)|refine K4 ?_ (hq:=hq)|(refine uA Z ?_ ?_<;>(try (show(_:Nat)*_<=_;dsimp only))))
 all_goals rfl
def Io(a b c d:Int)(q W:Int)(C:L UInt8)(p:L Vl)(Y:L Ty)(U:L Nd)(P:L Vl)(g u m:Int)(B:Vl)(H:L Nd)(V:Nat)(T:L Vl)(t:List gB)(Q:u<g)(E:OB g)(O:0<=u)(I:P.length<=500000000)(N:t.length<=1099511627776):b8 106 ⟨a,b,c,d,.mk q 1 W C p Y U::P,⟨H,V,4,T⟩::t,g,u,m,B⟩ [.ptr 1000002 (0+t.length*4)] (aA 0) ⟨a,b,c,d,P,⟨H,0,4,T⟩::t,g,u+1,m,B⟩:=by
 have h2:=tM ⟨H,V,4,T⟩ t;have M:i64.wrap (((((⟨H,V,4,T⟩:gB)::t).length:Nat):Int)-1)=(t.length:Nat):=by rw[gM ek ek];simp only[aaa];omega
 have D:=AD ⟨a,b,c,d,.mk q 1 W C p Y U::P,⟨H,V,4,T⟩::t,g,u,m,B⟩ (.mk q 1 W C p Y U) P Z bn;have hq:=OY ⟨a,b,c,d,P,⟨H,V,4,T⟩::t,g,u,m,B⟩ Q E O;have S:=OW ⟨H,V,4,T⟩ t;refine mn func106 call106 λβ hf=>?_
 repeat' (first|refine mQ ?_|refine zc ?_ ?_|(intro h;first|(cases h;done)|rw[h]|skip)|refine AK.skip ?_|refine AK.seq ?_|refine AK.block ?_|refine AK.exit Z ?_|refine ai.gm hX kn Z Z Z Z Z Z h2 Z ?_|refine K4 ?_ (hq:=D)|refine K4 ?_ (hq:=hq)|refine ai.store hX kn Z Z Z Z Z Z Z Z Z S Z ?_|(refine uA Z ?_ ?_<;>(try (show(_:Nat)*_<=_;dsimp only))))
 all_goals rfl
end Go.Proofs
namespace Go.Proofs
open Go.cB
def acu(p M Y:Prop)[Decidable p][Decidable M][Decidable Y]:(if p then 0 else if M then 2 else if Y then 3 else 1:Nat)<=3:=by by_cases h1:p;rw[if_pos h1];omega;rw[if_neg h1];by_cases h2:M;rw[if_pos h2];omega;rw[if_neg h2];by_cases U:Y;rw[if_pos U];omega;rw[if_neg U];omega
def nw(p:Int):bD p<=3:=by unfold bD;exact acu _ _ _
def nA{S:bE}{n:Nat}{l r:L Vl}(O:n<=3)(V:S.st.length<=1099511627776)(h:iQ n S.st=some (l,r)):b8 132 S [.c (aA (n:Nat))] (.fG [.sl 7 (aa l),.bool true]) {S with st:=r}:=by have h1:=MP S n O V;rw[h]at h1;exact h1
attribute [local irreducible] AK ai aR bW dG dR lF bD
def oV(S S':bE)(u N P:Int)(s:L UInt8)(args:L Nd)(l r:L Vl)(e:Int)(T:P=40\/P=41\/P=42\/P=43\/P=44)(A:iQ (bD P) S.st=some (l,r))(V:S.st.length<=1099511627776)(Y:b8 134 {S with st:=r} [.c (aS (.mk u N P s args)),.c (.sl 7 (aa l))] (aA e) S'):b8 109 S [.c (aS (.mk u N P s args))] (aA e) S':=by
 have W:=kg P bn;have h1:=nA (nw P) V A;generalize bD P=w at *;clear A;rcases T with rfl|rfl|rfl|rfl|rfl <;>
 ((refine mn func109 call109 λβ hf=>?_);(repeat' (first|refine mQ ?_|refine zc ?_ ?_|(intro h;first|(cases h;done)|rw[h]|skip)|refine uC Z W ?_|refine s9 ?_ (hq:=h1)|refine s9 ?_ (hq:=Y)));(all_goals rfl))
def iI(S S':bE)(u N P:Int)(s:L UInt8)(args:L Nd)(l r:L Vl)(e:Int)(T:P=45\/P=46\/P=47\/P=48\/P=49\/P=50\/P=51\/P=53\/P=54\/P=56)(A:iQ (bD P) S.st=some (l,r))(V:S.st.length<=1099511627776)(Y:b8 135 {S with st:=r} [.c (aS (.mk u N P s args)),.c (.sl 7 (aa l))] (aA e) S'):b8 109 S [.c (aS (.mk u N P s args))] (aA e) S':=by
 have W:=kg P bn;have h1:=nA (nw P) V A;generalize bD P=w at *;clear A;rcases T with rfl|rfl|rfl|rfl|rfl|rfl|rfl|rfl|rfl|rfl <;>
 ((refine mn func109 call109 λβ hf=>?_);(repeat' (first|refine mQ ?_|refine zc ?_ ?_|(intro h;first|(cases h;done)|rw[h]|skip)|refine uC Z W ?_|refine s9 ?_ (hq:=h1)|refine s9 ?_ (hq:=Y)));(all_goals rfl))
def fj(S S':bE)(u N P:Int)(s:L UInt8)(args:L Nd)(l r:L Vl)(e:Int)(T:P=52\/P=55\/P=58\/P=60\/P=64\/P=65\/P=66\/P=67\/P=68)(A:iQ (bD P) S.st=some (l,r))(V:S.st.length<=1099511627776)(Y:b8 136 {S with st:=r} [.c (aS (.mk u N P s args)),.c (.sl 7 (aa l))] (aA e) S'):b8 109 S [.c (aS (.mk u N P s args))] (aA e) S':=by
 have W:=kg P bn;have h1:=nA (nw P) V A;generalize bD P=w at *;clear A;rcases T with rfl|rfl|rfl|rfl|rfl|rfl|rfl|rfl|rfl <;>
 ((refine mn func109 call109 λβ hf=>?_);(repeat' (first|refine mQ ?_|refine zc ?_ ?_|(intro h;first|(cases h;done)|rw[h]|skip)|refine uC Z W ?_|refine s9 ?_ (hq:=h1)|refine s9 ?_ (hq:=Y)));(all_goals rfl))
def qb(S S':bE)(u N P:Int)(s:L UInt8)(args:L Nd)(l r:L Vl)(e:Int)(T:P=57\/P=59\/P=61\/P=62\/P=63)(A:iQ (bD P) S.st=some (l,r))(V:S.st.length<=1099511627776)(Y:b8 137 {S with st:=r} [.c (aS (.mk u N P s args)),.c (.sl 7 (aa l))] (aA e) S'):b8 109 S [.c (aS (.mk u N P s args))] (aA e) S':=by
 have W:=kg P bn;have h1:=nA (nw P) V A;generalize bD P=w at *;clear A;rcases T with rfl|rfl|rfl|rfl|rfl <;>
 ((refine mn func109 call109 λβ hf=>?_);(repeat' (first|refine mQ ?_|refine zc ?_ ?_|(intro h;first|(cases h;done)|rw[h]|skip)|refine uC Z W ?_|refine s9 ?_ (hq:=h1)|refine s9 ?_ (hq:=Y)));(all_goals rfl))
def dO(S S':bE)(u N P:Int)(s:L UInt8)(args:L Nd)(l r:L Vl)(e:Int)(T:P=69\/P=70\/P=71\/P=72\/P=93\/P=94\/P=95)(A:iQ (bD P) S.st=some (l,r))(V:S.st.length<=1099511627776)(Y:b8 138 {S with st:=r} [.c (aA P),.c (.sl 7 (aa l))] (aA e) S'):b8 109 S [.c (aS (.mk u N P s args))] (aA e) S':=by
 have W:=kg P bn;have h1:=nA (nw P) V A;generalize bD P=w at *;clear A;rcases T with rfl|rfl|rfl|rfl|rfl|rfl|rfl <;>
 ((refine mn func109 call109 λβ hf=>?_);(repeat' (first|refine mQ ?_|refine zc ?_ ?_|(intro h;first|(cases h;done)|rw[h]|skip)|refine uC Z W ?_|refine s9 ?_ (hq:=h1)|refine s9 ?_ (hq:=Y)));(all_goals rfl))
def fX(S S':bE)(u N P:Int)(s:L UInt8)(args:L Nd)(l r:L Vl)(e:Int)(T:P=73\/P=74\/P=75\/P=76\/P=77\/P=78\/P=79\/P=80\/P=81\/P=82\/P=83)(A:iQ (bD P) S.st=some (l,r))(V:S.st.length<=1099511627776)(Y:b8 139 {S with st:=r} [.c (aS (.mk u N P s args)),.c (.sl 7 (aa l))] (aA e) S'):b8 109 S [.c (aS (.mk u N P s args))] (aA e) S':=by
 have W:=kg P bn;have h1:=nA (nw P) V A;generalize bD P=w at *;clear A;rcases T with rfl|rfl|rfl|rfl|rfl|rfl|rfl|rfl|rfl|rfl|rfl <;>
 ((refine mn func109 call109 λβ hf=>?_);(repeat' (first|refine mQ ?_|refine zc ?_ ?_|(intro h;first|(cases h;done)|rw[h]|skip)|refine uC Z W ?_|refine s9 ?_ (hq:=h1)|refine s9 ?_ (hq:=Y)));(all_goals rfl))
def jn(S S':bE)(u N P:Int)(s:L UInt8)(args:L Nd)(l r:L Vl)(e:Int)(T:P=84\/P=85\/P=86\/P=87\/P=88\/P=89\/P=90\/P=91\/P=92)(A:iQ (bD P) S.st=some (l,r))(V:S.st.length<=1099511627776)(Y:b8 140 {S with st:=r} [.c (aS (.mk u N P s args)),.c (.sl 7 (aa l))] (aA e) S'):b8 109 S [.c (aS (.mk u N P s args))] (aA e) S':=by
 have W:=kg P bn;have h1:=nA (nw P) V A;generalize bD P=w at *;clear A;rcases T with rfl|rfl|rfl|rfl|rfl|rfl|rfl|rfl|rfl <;>
 ((refine mn func109 call109 λβ hf=>?_);(repeat' (first|refine mQ ?_|refine zc ?_ ?_|(intro h;first|(cases h;done)|rw[h]|skip)|refine uC Z W ?_|refine s9 ?_ (hq:=h1)|refine s9 ?_ (hq:=Y)));(all_goals rfl))
end Go.Proofs
namespace Go.Proofs
open Go.cB
def Fit(t:Ty)(v:Vl):Prop:=iK t v=true/\aE v<=25000000
def cD:L Ty->L Vl->Prop
 |[],[]=>True
 |t::s,v::l=>Fit t v/\cD s l
 |_,_=>False
def bq:∀{s:L Ty}{l:L Vl},cD s l->s.length=l.length
 |[],[],_=>rfl
 |t::s,v::l,h=>by simp only[aaa,bq h.2]
 |[],_::_,h=>h.elim
 |_::_,[],h=>h.elim
def aF{t:Ty}{s:L Ty}{l:L Vl}(h:cD (t::s) l):∃v q,l=v::q/\Fit t v/\cD s q:=by
 cases l with
 |nil=>exact h.elim
 |cons v q=>exact⟨v,q,Z,h.1,h.2⟩
def D4:∀{s:L Ty}{l:L Vl}{i:Nat}{t:Ty},cD s l->s[i]?=some t->∃v,l[i]?=some v/\Fit t v
 |t::s,v::l,0,u,h,e=>⟨v,rfl,by simp at e;subst e;exact h.1⟩
 |t::s,v::l,i+1,u,h,e=>D4 (i:=i) h.2 (by simpa using e)
 |[],_,_,_,_,e=>by simp at e
 |_::_,[],_,_,h,_=>h.elim
def AE:∀{s:L Ty}{l:L Vl}(i:Nat),cD s l->cD (s.take i) (l.take i)
 |_,_,0,_=>trivial
 |t::s,v::l,i+1,h=>⟨h.1,AE i h.2⟩
 |[],[],i+1,_=>trivial
 |[],_::_,_+1,h=>h.elim
 |_::_,[],_+1,h=>h.elim
def AF:∀{s:L Ty}{l:L Vl}(i:Nat),cD s l->cD (s.drop i) (l.drop i)
 |_,_,0,h=>h
 |t::s,v::l,i+1,h=>AF (s:=s) (l:=l) i h.2
 |[],[],i+1,_=>trivial
 |[],_::_,_+1,h=>h.elim
 |_::_,[],_+1,h=>h.elim
def uo:∀{s r:L Ty}{l m:L Vl},cD s l->cD r m->cD (s++r) (l++m)
 |[],_,[],_,_,h=>h
 |t::s,_,v::l,_,h,h2=>⟨h.1,uo h.2 h2⟩
 |[],_,_::_,_,h,_=>h.elim
 |_::_,_,[],_,h,_=>h.elim
def aq(P:Int)(args:L Nd)(S:bE):MR:=match iQ (bD P) S.st with
 |some (l,r)=>sN P args l {S with st:=r}
 |none=>(14,{S with st:=[]})
def bG(S:bE)(r:L Ty×Bool)(o:MR):Prop :=
 (o.1=0/\o.2.fr=S.fr/\cD r.1 o.2.st/\r.2=false)\/o.1=11\/o.1=13
def aW(G:Int)(Y:L UInt8)(P:Int)(args:L Nd)(S:bE):Prop:=b8 109 S [.c (aS (.mk 2 G P Y args))] (aA (aq P args S).1) (aq P args S).2
def oM:∀(l st:L Vl),(lF l st).1=13\/((lF l st).1=0/\(lF l st).2=l.reverse++st/\∀v∈l,lp v<=200)
 |[],st => .inr ⟨Z,Z,λv h=>by simp at h⟩
 |x::l,st=>by
  unfold lF;by_cases h:lp x>200;grind;rw[if_neg h];rcases oM l (x::st)with h1|⟨h1,h2,U⟩
  omega;grind
def II{t:Ty}{v:Vl}(h:iK t v=true)(C:lp v<=200):Fit t v:=⟨h,by have:=PN h;omega⟩
def bP{S:bE}{s:L Ty}{t:Ty}{v:Vl}(h:iK t v=true)(C:cD s S.st):bG S (t::s,false) (aQ S [v]):=by
 rcases oM [v] S.st with h1|⟨h1,h2,U⟩
 exact .inr (.inr h1);refine .inl ⟨h1,Z,?_,Z⟩;show cD _ (lF [v] S.st).2;rw[h2];exact⟨II h (U v c9),C⟩
def HM{S:bE}{s:L Ty}{t u:Ty}{v w:Vl}(h:iK t v=true)(O:iK u w=true)(C:cD s S.st):bG S (t::u::s,false) (aQ S [w,v]):=by
 rcases oM [w,v] S.st with h1|⟨h1,h2,U⟩
 exact .inr (.inr h1);refine .inl ⟨h1,Z,?_,Z⟩;show cD _ (lF [w,v] S.st).2;rw[h2];exact⟨II h (U v c9),II O (U w c9),C⟩
def jx{P:Int}{args:L Nd}{types:L Ty}(h:br P args=some types):args.length=(fF P).length/\iX (fF P) args []=some types:=by unfold br at h;simp_all
def ct{P:Int}{args:L Nd}{types:L Ty}(h:br P args=some types)(C:fF P=[]):args=[]/\types=[]:=by obtain⟨h1,h2⟩:=jx h;rw[C]at h1 h2;obtain rfl:=List.length_eq_zero_iff.1 h1;cases h2;exact⟨rfl,rfl⟩
def zh{P:Int}{args:L Nd}{types:L Ty}(h:br P args=some types)(C:fF P=[110]):∃N p q x,args=[.mk 0 (N:Nat) p q x]/\N<=40/\types=[]:=by obtain⟨h1,h2⟩:=jx h;rw[C]at h1 h2;obtain⟨y,rfl⟩:=List.length_eq_one_iff.1 h1;obtain⟨u,N,p,q,x⟩:=y;simp only[iX,if_true]at h2;split at h2;rename_i c;obtain⟨rfl,Y,M⟩:=c;cases h2;exact⟨N.toNat,p,q,x,by rw[Int.toNat_of_nonneg Y],bn,rfl⟩;grind
def OJ:bD 40=1:=by decide +kernel
def OK:bD 41=0:=by decide +kernel
def OL:bD 42=2:=by decide +kernel
def OM:bD 43=0:=by decide +kernel
def ON:bD 44=1:=by decide +kernel
def NB(S:bE)(G:Int)(Y:L UInt8)(args:L Nd)(types s:L Ty)(r:L Ty×Bool)(hf:br 40 args=some types)(C:cD s S.st)(V:s.length<=340)(D:fZ 40 args s=(r,0)):aW G Y 40 args S/\bG S r (aq 40 args S):=by
 obtain⟨a,b,c,d,st,I,g,u,m,B⟩:=S;obtain⟨rfl,rfl⟩:=ct hf cc;have O:=bq C;cases s with
 |nil=>cases D
 |cons t s =>
  obtain⟨v,q,rfl,W,hq⟩:=aF C;cases D;have e:aq 40 [] ⟨a,b,c,d,v::q,I,g,u,m,B⟩=(0,⟨a,b,c,d,q,I,g,u,m,B⟩):=by unfold aq;rfl
  exact⟨oV _ _ 2 G 40 Y [] [v] q 0 cc (by rw[OJ];rfl) (by simp at *;omega) (Fl _ G Y [v]),.inl ⟨Z,Z,hq,Z⟩⟩
def NC(S:bE)(G:Int)(Y:L UInt8)(args:L Nd)(types s:L Ty)(r:L Ty×Bool)(hf:br 42 args=some types)(C:cD s S.st)(U:s.length<=340)(D:fZ 42 args s=(r,0)):aW G Y 42 args S/\bG S r (aq 42 args S):=by
 obtain⟨a,b,c,d,st,I,g,u,m,B⟩:=S;obtain⟨rfl,rfl⟩:=ct hf cc;have O:=bq C;rcases s with _|⟨T,_|⟨Q,s⟩⟩
 cases D;cases D;obtain⟨v,M,rfl,W,E⟩:=aF C;obtain⟨w,q,rfl,V,hq⟩:=aF E;cases D;have e:aq 42 [] ⟨a,b,c,d,v::w::q,I,g,u,m,B⟩=aQ ⟨a,b,c,d,q,I,g,u,m,B⟩ [v,w]:=by unfold aq;rfl
 simp at O U;exact⟨oV _ _ 2 G 42 Y [] [v,w] q _ cc (by rw[OL];rfl) ob (PK ⟨a,b,c,d,q,I,g,u,m,B⟩ G Y v w (by have:=W.2;omega) (by have:=V.2;omega) (by show q.length<=_;omega)),HM (S:=⟨a,b,c,d,q,I,g,u,m,B⟩) V.1 W.1 hq⟩
def OZ{α:Type}{l:List α}{i:Nat}{d:α}(h:i<l.length):l[i]?=some (l.getD i d):=by simp_all
def Qh(S:bE)(G:Int)(Y:L UInt8)(args:L Nd)(types s:L Ty)(r:L Ty×Bool)(hf:br 41 args=some types)(C:cD s S.st)(T:s.length<=340)(D:fZ 41 args s=(r,0)):aW G Y 41 args S/\bG S r (aq 41 args S):=by
 obtain⟨a,b,c,d,st,I,g,u,m,B⟩:=S;obtain⟨N,p,q,x,rfl,Q,rfl⟩:=zh hf cc;have O:=bq C;simp only at C O;have W:(if 1<=(N:Int)/\(N:Int)<=s.length/\gT (s.getD ((N:Int)-1).toNat iY)=true then eB (s.getD ((N:Int)-1).toNat iY::s)else aX 5)=(r,0):=D;split at W
 ·rename_i P;cases W;rw[show((N:Int)-1).toNat=N-1 from by omega];have A:=OZ (l:=s) (i:=N-1) (d:=iY) bn;obtain⟨v,V,U⟩:=D4 C A;have e:aq 41 [.mk 0 (N:Nat) p q x] ⟨a,b,c,d,st,I,g,u,m,B⟩=aQ ⟨a,b,c,d,st,I,g,u,m,B⟩ [v]:=by show aQ _ [lV st ((N:Int).toNat-1)]=_;rw[Int.toNat_natCast,SS V]
  unfold aW;rw[e];exact⟨oV _ _ 2 G 41 Y _ [] st _ cc (by rw[OK];rfl) LM (SU ⟨a,b,c,d,st,I,g,u,m,B⟩ G Y N p q x [] v bn V (by have:=U.2;omega) LM),bP (S:=⟨a,b,c,d,st,I,g,u,m,B⟩) U.1 C⟩
 cases W
def Qi(S:bE)(G:Int)(Y:L UInt8)(args:L Nd)(types s:L Ty)(r:L Ty×Bool)(hf:br 43 args=some types)(C:cD s S.st)(T:s.length<=340)(D:fZ 43 args s=(r,0)):aW G Y 43 args S/\bG S r (aq 43 args S):=by
 obtain⟨a,b,c,d,st,fr,g,u,m,said⟩:=S;obtain⟨N,p,q,x,rfl,Q,rfl⟩:=zh hf cc;have O:=bq C;simp only at C O;have W:(if(N:Int)<s.length then eB (s.getD (N:Int).toNat iY::(s.take (N:Int).toNat++s.drop ((N:Int).toNat+1)))else aX 5)=(r,0):=D;split at W
 ·rename_i P;cases W;have A:=OZ (l:=s) (i:=N) (d:=iY) bn;obtain⟨v,V,U⟩:=D4 C A;have e:aq 43 [.mk 0 (N:Nat) p q x] ⟨a,b,c,d,st,fr,g,u,m,said⟩=(0,⟨a,b,c,d,v::(st.take N++st.drop (N+1)),fr,g,u,m,said⟩):=by show((0,{self:=a,gC:=b,gD:=c,balance:=d,st:=lV st (N:Int).toNat::(st.take (N:Int).toNat++st.drop ((N:Int).toNat+1)),fr:=fr,nV:=g,used:=u,aZ:=m,said:=said}):MR)=_;rw[Int.toNat_natCast,SS V]
  unfold aW;rw[e];exact⟨oV _ _ 2 G 43 Y _ [] st _ cc (by rw[OM];rfl) LM (SX ⟨a,b,c,d,st,fr,g,u,m,said⟩ G Y N p q x [] v V LM),.inl ⟨Z,Z,⟨U,uo (AE N C) (AF (N+1) C)⟩,Z⟩⟩
 cases W
def Qj(S:bE)(G:Int)(Y:L UInt8)(args:L Nd)(types s:L Ty)(r:L Ty×Bool)(hf:br 44 args=some types)(C:cD s S.st)(V:s.length<=340)(D:fZ 44 args s=(r,0)):aW G Y 44 args S/\bG S r (aq 44 args S):=by
 obtain⟨a,b,c,d,st,I,g,u,m,B⟩:=S;obtain⟨N,p,q,x,rfl,T,rfl⟩:=zh hf cc;have O:=bq C;cases s with
 |nil=>cases D
 |cons t s =>
  obtain⟨v,st,rfl,U,hq⟩:=aF C;simp at O V;have W:(if(N:Int)<s.length+1 then eB (s.take (N:Int).toNat++t::s.drop (N:Int).toNat)else aX 5)=(r,0):=D;split at W;rename_i Q;cases W;have e:aq 44 [.mk 0 (N:Nat) p q x] ⟨a,b,c,d,v::st,I,g,u,m,B⟩=(0,⟨a,b,c,d,st.take N++v::st.drop N,I,g,u,m,B⟩):=(by rfl);exact⟨oV _ _ 2 G 44 Y _ [v] st _ cc (by rw[ON];rfl) (by show(v::st).length<=_;simp;omega) (SZ ⟨a,b,c,d,st,I,g,u,m,B⟩ G Y N p q x v (by show N<=st.length;omega) LM),.inl ⟨Z,Z,uo (AE N hq) ⟨U,AF N hq⟩,Z⟩⟩;cases W
def Nl(P:Int)(T:40<=P/\P<=44)(S:bE)(G:Int)(Y:L UInt8)(args:L Nd)(types s:L Ty)(r:L Ty×Bool)(hf:br P args=some types)(C:cD s S.st)(V:s.length<=340)(D:fZ P args s=(r,0)):aW G Y P args S/\bG S r (aq P args S):=by
 rcases(show P=40\/P=41\/P=42\/P=43\/P=44 by omega)with rfl|rfl|rfl|rfl|rfl
 exact NB S G Y args types s r hf C V D;exact Qh S G Y args types s r hf C V D;exact NC S G Y args types s r hf C V D;exact Qi S G Y args types s r hf C V D;exact Qj S G Y args types s r hf C V D
def jt{k n a:Int}{s:L UInt8}{args:L Vl}{types:L Ty}{H:L Nd}{t:Ty}(h:bz (.mk k n a s args types H) t=true):k=cq t/\bX (.mk k n a s args types H)=true/\s.length<=200:=by
 unfold bz at h;by_cases B:k≠cq t\/bX (.mk k n a s args types H)=false\/200<s.length;grind;refine⟨abH λG=>B (.inl G),?_,bn⟩;cases hq:bX (.mk k n a s args types H)with
 |true=>rfl
 |false=>exact absurd (.inr (.inl hq)) B
def fh{v:Vl}{T:Int}{ts:L Ty}(q:T=2\/T=3\/T=4\/T=5\/T=7)(h:bz v (.mk T ts)=true):∃n,v=aI T n/\bz (aI T n) (.mk T ts)=true:=by
 obtain⟨k,n,a,s,args,types,H⟩:=v;obtain⟨E,D,C⟩:=jt h;subst E;have:args=[]/\a=0/\s=[]/\types=[]/\H=[]:=by rcases q with rfl|rfl|rfl|rfl|rfl<;>simp[bz,bX]at h D<;>simp_all
 obtain⟨rfl,rfl,rfl,rfl,rfl⟩:=this;exact⟨n,Z,h⟩
def Js{v:Vl}{ts:L Ty}(h:bz v (.mk 2 ts)=true):v=aI 2 0\/v=aI 2 1:=by
 obtain⟨n,rfl,h⟩:=fh (.inl rfl) h;have:0<=n/\n<=1:=by simpa[bz,bX,aI,cq]using h
 grind
def mF{T n:Int}{ts:L Ty}(h:(T=2/\0<=n/\n<=1)\/(T=3 /\ -bF<=n/\n<=bF)\/(T=4/\0<=n/\n<=bF)\/(T=5/\0<=n/\n<=bF)\/(T=7/\0<=n/\n<12)):bz (aI T n) (.mk T ts)=true/\ey (aI T n)=true:=by
 rcases h with ⟨rfl,h⟩|⟨rfl,h⟩|⟨rfl,h⟩|⟨rfl,h⟩|⟨rfl,h⟩
 all_goals simp[bz,bX,aI,cq,ey,ee,h]
def MY{T n:Int}{ts:L Ty}(h:bz (aI T n) (.mk T ts)=true):(T=2->0<=n/\n<=1)/\(T=3 -> -bF<=n/\n<=bF)/\(T=4->0<=n/\n<=bF)/\(T=5->0<=n/\n<=bF)/\(T=7->0<=n/\n<12):=by refine⟨?_,?_,?_,?_,?_⟩<;>(rintro rfl;simpa[bz,bX,aI,cq]using h)
def lg{v:Vl}{t u:Ty}(h:bz v (.mk 11 [t,u])=true)(C:ey v=true):∃x y,v=aY x y/\(bz x t=true/\ey x=true)/\(bz y u=true/\ey y=true):=by
 obtain⟨k,n,a,s,args,types,H⟩:=v;obtain⟨E,D,_⟩:=jt h;subst E;simp[bX]at D;simp[bz,bX,cq,aK]at h;obtain⟨rfl,rfl,rfl,rfl⟩:=D;rcases args with _|⟨x,_|⟨y,_|⟨z,r⟩⟩⟩
 grind;grind;simp[cL,ey,ee]at h C;exact⟨x,y,by rw[h.1];rfl,⟨h.2.1,C.1⟩,⟨h.2.2,C.2⟩⟩;grind
def kj{x y:Vl}{t u:Ty}(h1:bz x t=true/\ey x=true)(h2:bz y u=true/\ey y=true):bz (aY x y) (.mk 11 [t,u])=true/\ey (aY x y)=true:=by simp[aY,bz,bX,cq,aK,cL,ey,ee,h1,h2]
def yo{v:Vl}{t:Ty}(h:bz v (.mk 9 [t])=true)(C:ey v=true):v=bN []\/∃x,v=bN [x]/\bz x t=true/\ey x=true:=by
 obtain⟨k,n,a,s,args,types,H⟩:=v;obtain⟨E,D,_⟩:=jt h;subst E;simp[bX]at D;simp[bz,bX,cq]at h;obtain⟨rfl,rfl,rfl,rfl⟩:=D;rcases args with _|⟨x,_|⟨y,r⟩⟩
 exact .inl (by simp at h;rw[h.1];rfl);simp[aJ,ey,ee]at h C;exact .inr ⟨x,by rw[h.1];rfl,h.2,C⟩;grind
def mG{t:Ty}:bz (bN []) (.mk 9 [t])=true/\ey (bN [])=true:=by simp[bN,bz,bX,cq,aJ,ey,ee]
def iy{x:Vl}{t:Ty}(h:bz x t=true/\ey x=true):bz (bN [x]) (.mk 9 [t])=true/\ey (bN [x])=true:=by simp[bN,bz,bX,cq,aG,aK,aJ,ey,ee,h]
def nU{v:Vl}{t:Ty}(h:bz v (.mk 10 [t])=true)(C:ey v=true):∃l,v = .mk 10 0 0 [] l [] []/\l.length<=24/\aJ l t=true/\ee l=true:=by obtain⟨k,n,a,s,args,types,H⟩:=v;obtain⟨E,D,_⟩:=jt h;simp only[cq]at E;subst E;simp[bX]at D;simp[bz]at h;obtain⟨rfl,rfl,rfl,rfl⟩:=D;exact⟨args,by rw[h.2.1.1],h.2.1.2,h.2.2,C⟩
def yq{l:L Vl}{t:Ty}(V:l.length<=24)(h:aJ l t=true)(C:ee l=true):bz (.mk 10 0 0 [] l [] []) (.mk 10 [t])=true/\ey (.mk 10 0 0 [] l [] [])=true:=by simp[bz,bX,cq,aG,aK,ey,h,C,V]
def GK{v:Vl}{t u:Ty}(h:bz v (.mk 12 [t,u])=true)(C:ey v=true):∃x,(v = .mk 12 0 0 [] [x] [] []/\bz x t=true\/v = .mk 12 1 0 [] [x] [] []/\bz x u=true)/\ey x=true:=by
 obtain⟨k,n,a,s,args,types,H⟩:=v;obtain⟨E,D,_⟩:=jt h;subst E;simp[bX]at D;simp[bz,cq]at h;obtain⟨rfl,rfl,rfl,rfl⟩:=D;rcases args with _|⟨x,_|⟨y,r⟩⟩
 grind
 ·simp[aJ,ey,ee]at h C;rcases(show n=0\/n=1 by omega)with rfl|rfl
  exact⟨x,.inl ⟨Z,by simpa[aG,aK]using h.2⟩,C⟩;exact⟨x,.inr ⟨Z,by simpa[aG,aK]using h.2⟩,C⟩
 grind
def VJ{x:Vl}{t u:Ty}(h:bz x t=true/\ey x=true):bz (.mk 12 0 0 [] [x] [] []) (.mk 12 [t,u])=true/\ey (.mk 12 0 0 [] [x] [] [])=true:=by simp[bz,bX,cq,aG,aK,aJ,ey,ee,h]
def VK{x:Vl}{t u:Ty}(h:bz x u=true/\ey x=true):bz (.mk 12 1 0 [] [x] [] []) (.mk 12 [t,u])=true/\ey (.mk 12 1 0 [] [x] [] [])=true:=by simp[bz,bX,cq,aG,aK,aJ,ey,ee,h]
end Go.Proofs
