/- Methods of package run's machine that keep its blocks' names; -/
import Derived.Test.YteanleefnjknoaaGreatDoorRunE
import Derived.Test.YteanleefnjknoaaGreatDoorRun2
set_option maxRecDepth 100000
open Go.IntKind
open Go.Proofs.Tryz
set_option linter.defProp false
set_option maxHeartbeats 0
set_option linter.unusedVariables false
set_option linter.unusedSimpArgs false
namespace Go.Proofs
open Go.cK
def yy(f:FuncId)(S:ct)(J:L AV)(r:CV)(u:ct):Prop :=
 qE f (mI (mC S) (bC (sR S.st)) (bC (fR S.fr))) (.ptr 1000000 0::J) (.c r) (mI (mC u) (bC (sR u.st)) (bC (fR u.fr)))
def Sp{f:FuncId}{n:Nat}{β:jZ}{K:L Item}{env:Env}{S:Func}(hf:Tryz.prog.funcs[f]?=some S){bs:L (Nat×L AV)}{ts:L (Nat×Nat)}{us:L Nat}{l:L AV}(C:qF Tryz.X bs env S.results.toList=some l)
  {v:CV}(M:close (yK l)=some v){u:ct}{cells Y P:L AV}(h1:an 1000000 bs=some cells)(I:cells=mC u 1000001 1000002)(h2:an 1000001 bs=some Y)(W:Y=ak (sR u.st))(V:an 1000002 bs=some P)(G:P=ak (fR u.fr)){r:CV}(B:v=r) :
  Av f n β (HR β (.c r) (mI (mC u) (bC (sR u.st)) (bC (fR u.fr)))) (.code .ret::K) env ⟨bs,ts,us⟩:=by
 subst I W G B;refine AK.FR (.inl ⟨_,Z⟩) hX hf C [(1000000,1000000),(1000001,1000001),(1000002,1000002)] Z (.inr M) ⟨⟨_,_,Z,h1,(F4 u).conv _ _ _ _ _ _ Z Z⟩,⟨_,_,Z,h2,cN _⟩,⟨_,_,Z,V,cN _⟩,trivial⟩
def uMK{ops:Array Oper}{o:Oper}{rest:L Oper}{env:Env}{acc:L Fp}{Q:Env->St->L Fp->Prop}{bs:L (Nat×L AV)}{ts:L (Nat×Nat)}{us:L Nat}(G:dj ops.toList kn env o=some true){f:FuncId}{args:Array Operand}{K:Array TypeId}(C:o.op = .call {callee := .value (.func f),args:=args,argTypes:=K})
  {S u:ct}{W:L AV}{r:CV}(hq:yy f S W r u){d:Nat}(O:o.dst=some d)
  {l:L AV}(E:gE (aK Tryz.X env) args.toList=some l){km:Nat}{J:L AV}(Y:l = .ptr km 0::J){N fk:Nat}{p V P:L AV}(h1:an km bs=some p)(I:p=mC S N fk)(h2:an N bs=some V)(q:V=ak (sR S.st))(U:an fk bs=some P)(T:P=ak (fR S.fr))
  (M:∀ts,eF ⟨λk=>an k [(1000000,km),(1000001,N),(1000002,fk)],λ_=>none⟩ ts W J)(A:Go.cK.distinct [km,N,fk]=true)
  {bs':L (Nat×L AV)}(H:kD [km,N,fk] bs=bs')
  (k:lI ops rest ((d,.c r)::env) ⟨(km,mC u N fk)::(N,ak (sR u.st))::(fk,ak (fR u.fr))::bs',ts,km::N::fk::us⟩ (⟨[],[km,N,fk,km,N,fk,km,N,fk]⟩::acc) Q):lI ops (o::rest) env ⟨bs,ts,us⟩ acc Q:=by
 subst Y;exact af.abG kn G C hq (F4 S) (F4 u) O E Z h1 I h2 q U T (λts=>⟨_,_,Z,⟨_,fe,Z⟩,M ts⟩) A Z Z H k
def Oc{ops:Array Oper}{o:Oper}{rest:L Oper}{env:Env}{acc:L Fp}{Q:Env->St->L Fp->Prop}{bs:L (Nat×L AV)}{ts:L (Nat×Nat)}{us:L Nat}{f:FuncId}{args:Array Operand}{K:Array TypeId}{S u:ct}{W:L AV}{r:CV}{d:Nat}{l:L AV}{km:Nat}{J:L AV}{N fk:Nat}{p V P:L AV}{bs':L (Nat×L AV)}(k:lI ops rest ((d,.c r)::env) ⟨(km,mC u N fk)::(N,ak (sR u.st))::(fk,ak (fR u.fr))::bs',ts,km::N::fk::us⟩ (⟨[],[km,N,fk,km,N,fk,km,N,fk]⟩::acc) Q)(G:dj ops.toList kn env o=some true:=by exact rfl)(C:o.op = .call {callee := .value (.func f),args:=args,argTypes:=K}:=by exact rfl)(hq:yy f S W r u:=by assumption)(O:o.dst=some d:=by exact rfl)(E:gE (aK Tryz.X env) args.toList=some l:=by exact rfl)(Y:l = .ptr km 0::J:=by exact rfl)(h1:an km bs=some p:=by exact rfl)(I:p=mC S N fk:=by exact rfl)(h2:an N bs=some V:=by exact rfl)(q:V=ak (sR S.st):=by exact rfl)(U:an fk bs=some P:=by exact rfl)(T:P=ak (fR S.fr):=by exact rfl)(M:∀ts,eF ⟨λk=>an k [(1000000,km),(1000001,N),(1000002,fk)],λ_=>none⟩ ts W J:=by intro _;repeat' (first|exact rfl|refine GZ rfl ?_|refine G0 rfl ?_))(A:Go.cK.distinct [km,N,fk]=true:=by exact rfl)(H:kD [km,N,fk] bs=bs':=by exact rfl): lI ops (o::rest) env ⟨bs,ts,us⟩ acc Q:=uMK G C hq O E Y h1 I h2 q U T M A H k
def So(f:iJ)(t:List iJ):eu (0+t.length*4+1) (ak (fR (f::t)))=some [.c (ag (f.pos:Nat)),.c (ag f.fin),.c (.sl 7 (aa f.aside))]:=lY _ 1 _ _ _ (zX f t) rfl
def vF(f:iJ)(t:List iJ):eu (0+t.length*4+2) (ak (fR (f::t)))=some [.c (ag f.fin),.c (.sl 7 (aa f.aside))]:=lY _ 2 _ _ _ (zX f t) rfl
def Gq(f:iJ)(t:List iJ):eu (0+t.length*4+3) (ak (fR (f::t)))=some [.c (.sl 7 (aa f.aside))]:=lY _ 3 _ _ _ (zX f t) rfl
def Sq(f:iJ)(t:List iJ):bV (0+t.length*4+1) [.c (ag 0)] (ak (fR (f::t)))=some (ak (fR ({f with pos:=0}::t))):=FY f t 0
attribute [local irreducible] AK af bg cn cP dP nI
def Sr(S:ct)(h:S.cC<=S.used):yy 57 S [] (ag 12) S:=by
 have A:decide (S.used>=S.cC)=true:=aak h;refine cP.of func57 Z (λJ w=>call57 J w) (aep Z) [(0,.ptr 1000000 0)] ⟨[(1000000,mC (S) 1000001 1000002),(1000001,ak (sR (S).st)),(1000002,ak (fR (S).fr))],[],[1000000,1000001,1000002]⟩ Z Z λβ=>?_;have hf:=func57
 repeat' (first|refine om ?_|refine zc ?_ ?_|(intro h;first|(cases h;done)|rw[h]|skip))
 exact adO
def Ss(S:ct)(h:S.used<S.cC)(h1:Rh S.cC)(h2:0<=S.used):yy 57 S [] (ag 0) {S with used:=S.used+1}:=by
 have A:decide (S.used>=S.cC)=false:=aap bn;have N:i64.wrap (S.used+1)=S.used+1:=iy bn (by have:=h1.2;omega);refine cP.of func57 Z (λJ w=>call57 J w) (aep Z) [(0,.ptr 1000000 0)] ⟨[(1000000,mC (S) 1000001 1000002),(1000001,ak (sR (S).st)),(1000002,ak (fR (S).fr))],[],[1000000,1000001,1000002]⟩ Z Z λβ=>?_;have hf:=func57
 repeat' (first|refine om ?_|refine zc ?_ ?_|(intro h;first|(cases h;done)|rw[h]|skip))
 rw[N];exact adO
def Xt(S:ct)(h:S.st=[]):yy 88 S [] (.eY [bH ou,.bool false]) S:=by
 obtain⟨a,b,c,d,st,H,g,u,m,U⟩:=S;simp only at h;subst h;have A:decide (i64.wrap (((([]:L Vl).length:Nat):Int)-1)<0)=true:=by decide
 refine cP.of func88 Z (λJ w=>call88 J w) (aep Z) [(0,.ptr 1000000 0)] ⟨[(1000000,mC (ct.mk a b c d [] H g u m U) 1000001 1000002),(1000001,ak (sR (ct.mk a b c d [] H g u m U).st)),(1000002,ak (fR (ct.mk a b c d [] H g u m U).fr))],[],[1000000,1000001,1000002]⟩ Z Z λβ=>?_;have hf:=func88
 repeat' (first|refine om ?_|refine zc ?_ ?_|(intro h;first|(cases h;done)|rw[h]|skip))
 exact adO
def Cq(S:ct)(v:Vl)(t:L Vl)(h:S.st=v::t)(E:t.length<=1099511627776):yy 88 S [] (.eY [bH v,.bool true]) {S with st:=t}:=by
 obtain⟨a,b,c,d,st,H,g,u,m,U⟩:=S;simp only at h;subst h;have N:i64.wrap ((((v::t).length:Nat):Int)-1)=(t.length:Nat):=by
  rw[iy dG dG];simp only[aac];omega
 have A:decide (i64.wrap ((((v::t).length:Nat):Int)-1)<0)=false:=by rw[N];exact aap bn
 obtain⟨k,n,Y,s,J,B,code⟩:=v;have W:=Kn k n Y s J B code t;refine cP.of func88 Z (λJ w=>call88 J w) (aep Z) [(0,.ptr 1000000 0)] ⟨[(1000000,mC (ct.mk a b c d (.mk k n Y s J B code::t) H g u m U) 1000001 1000002),(1000001,ak (sR (ct.mk a b c d (.mk k n Y s J B code::t) H g u m U).st)),(1000002,ak (fR (ct.mk a b c d (.mk k n Y s J B code::t) H g u m U).fr))],[],[1000000,1000001,1000002]⟩ Z Z λβ=>?_;have hf:=func88
 repeat' (first|refine om ?_|refine zc ?_ ?_|(intro h;first|(cases h;done)|rw[h]|skip)|refine af.jV hX kn Z Z Z Z Z Z Z Z Z t.length N (aeJ _) ?_|refine af.dD hX kn Z Z Z Z Z Z W Z ?_|refine af.D2 hX kn Z Z Z Z Z Z Z Z Z Z Z Z t.length N (ago _) ?_)
 refine AK.xj 1000001 (ak (sR t)) _ Z (F6 _ _) Z ?_;exact adO
def Uf{X:Go.cK.Ctx}{env:Env}{y:Operand}{z:Int}{J:IntKind}{h:Nat}(M:aK X env y=some (.c (.int J z)))(D:z=h):bound (aK X env) (some y)=some (some h):=by subst D;simp only[bound,M,asNat]
def KK(S:ct)(F:iJ)(t:List iJ)(h:S.fr=F::t)(Q:F.fin=0)(E:t.length<=1099511627776):cJ 55 S [.ptr 1000002 (0+t.length*4)] (ag 0) {S with fr:=t}:=by
 obtain⟨a,b,c,d,T,fr,g,u,m,U⟩:=S;obtain⟨code,Y,fin,P⟩:=F;simp only at h Q;subst h Q;have h2:=vF ⟨code,Y,0,P⟩ t;have N:i64.wrap ((((iJ.mk code Y 0 P::t).length:Nat):Int)-1)=(t.length:Nat):=by
  rw[iy dG dG];simp only[aac];omega
 refine mn func55 call55 λβ hf=>?_
 repeat' ((fail_if_success (refine lR 28 ?_));first|refine om ?_|refine zc ?_ ?_|(intro h;first|(cases h;done)|rw[h]|skip)|refine AK.skip ?_|refine AK.seq ?_|refine AK.block ?_|refine AK.exit Z ?_|refine af.dD hX kn Z Z Z Z Z Z h2 Z ?_|refine af.sliceB hX kn Z Z Z Z Z Z Z Z (l:=none) (h:=some t.length) Z (Uf Z N) (ago _) (aeE _) ?_|(refine uA Z ?_ ?_<;>(try (show(_:Nat)*_<=_;dsimp only))))
 refine AK.xj 1000002 (cells:=ak (fR (⟨code,Y,0,P⟩::t))) (ak (fR t)) (ak [sS ⟨code,Y,0,P⟩]) Z (mM _ _) Z ?_;exact dm
def QG(a b c d:Int)(T:L Vl)(g u m:Int)(U:Vl)(code:L Nd)(Y:Nat)(P:L Vl)(t:List iJ)(G:T.length<=500000000)(ha:P.length<=500000000)(E:t.length<=1099511627776):cJ 55 ⟨a,b,c,d,T,⟨code,Y,1,P⟩::t,g,u,m,U⟩ [.ptr 1000002 (0+t.length*4)] (ag 0) ⟨a,b,c,d,P.reverse++T,t,g,u,m,U⟩:=by
 have h2:=vF ⟨code,Y,1,P⟩ t;have V:=Gq ⟨code,Y,1,P⟩ t;have N:i64.wrap (((((⟨code,Y,1,P⟩:iJ)::t).length:Nat):Int)-1)=(t.length:Nat):=by
  rw[iy dG dG];simp only[aac];omega
 have W:sR T++aa P=sR (P.reverse++T):=by rw[sR,sR,ahh,afZ,lQ]
 have Q:((sR T).length+(aa P).length)*112<=140737488355328:=by rw[jC,aG];omega
 refine mn func55 call55 λβ hf=>?_
 repeat' ((fail_if_success (refine lR 28 ?_));first|refine om ?_|refine zc ?_ ?_|(intro h;first|(cases h;done)|rw[h]|skip)|refine AK.skip ?_|refine AK.seq ?_|refine AK.block ?_|refine AK.exit Z ?_|refine af.dD hX kn Z Z Z Z Z Z h2 Z ?_|refine af.dD hX kn Z Z Z Z Z Z V Z ?_|refine af.mR hX kn Z Z Z Z Z Z Z Z Z Z Z Z Z Z Z (sR T) [] (aec _).symm (jC _).symm (vf _) Z Z Z Z Z Z Z Q W (m:=(P.reverse++T).length) (jC _) Z ?_|refine af.sliceB hX kn Z Z Z Z Z Z Z Z (l:=none) (h:=some t.length) Z (Uf Z N) (ago _) (aeE _) ?_|(refine uA Z ?_ ?_<;>(try (show(_:Nat)*_<=_;dsimp only))))
 refine AK.xj 1000002 (cells:=ak (fR (⟨code,Y,1,P⟩::t))) (ak (fR t)) (ak [sS ⟨code,Y,1,P⟩]) Z (mM _ _) Z ?_;exact dm
def KL(a b c d:Int)(T:L Vl)(g u m:Int)(U:Vl)(code:L Nd)(Y:Nat)(P:L Vl)(t:List iJ)(E:t.length<=1099511627776):cJ 55 ⟨a,b,c,d,[],⟨code,Y,2,P⟩::t,g,u,m,U⟩ [.ptr 1000002 (0+t.length*4)] (ag 14) ⟨a,b,c,d,[],⟨code,Y,2,P⟩::t,g,u,m,U⟩:=by
 have h2:=vF ⟨code,Y,2,P⟩ t;have V:=Gq ⟨code,Y,2,P⟩ t;have N:i64.wrap (((((⟨code,Y,2,P⟩:iJ)::t).length:Nat):Int)-1)=(t.length:Nat):=by
  rw[iy dG dG];simp only[aac];omega
 refine mn func55 call55 λβ hf=>?_
 repeat' (first|refine om ?_|refine zc ?_ ?_|(intro h;first|(cases h;done)|rw[h]|skip)|refine AK.skip ?_|refine AK.seq ?_|refine AK.block ?_|refine AK.exit Z ?_|refine af.dD hX kn Z Z Z Z Z Z h2 Z ?_|(refine uA Z ?_ ?_<;>(try (show(_:Nat)*_<=_;dsimp only))))
 all_goals rfl
def KN(a b c d:Int)(v:Vl)(T:L Vl)(g u m:Int)(U:Vl)(code:L Nd)(Y:Nat)(t:List iJ)(G:T.length<=500000000)(E:t.length<=1099511627776):cJ 55 ⟨a,b,c,d,v::T,⟨code,Y,2,[]⟩::t,g,u,m,U⟩ [.ptr 1000002 (0+t.length*4)] (ag 0) ⟨a,b,c,d,[v],t,g,u,m,U⟩:=by
 have h2:=vF ⟨code,Y,2,[]⟩ t;have V:=Gq ⟨code,Y,2,[]⟩ t;have N:i64.wrap (((((⟨code,Y,2,[]⟩:iJ)::t).length:Nat):Int)-1)=(t.length:Nat):=by
  rw[iy dG dG];simp only[aac];omega
 have S:i64.wrap ((((T.length+1:Nat)):Int)-1)=(T.length:Nat):=by rw[iy bn bn];omega
 have I:((((T.length+1:Nat)):Int)==0)=false:=beq_eq_false_iff_ne.2 bn;obtain⟨J,Q,P,O,W,D,M⟩:=v;have K:=Kn J Q P O W D M T;refine mn func55 call55 λβ hf=>?_
 repeat' ((fail_if_success (refine lR 28 ?_));first|refine om ?_|refine zc ?_ ?_|(intro h;first|(cases h;done)|rw[h]|skip)|refine AK.skip ?_|refine AK.seq ?_|refine AK.block ?_|refine AK.exit rfl ?_|refine af.dD hX kn rfl rfl rfl rfl rfl rfl h2 rfl ?_|refine af.jV hX kn rfl rfl rfl rfl rfl rfl rfl rfl rfl T.length S (aeJ _) ?_|refine af.dD hX kn rfl rfl rfl rfl rfl rfl K rfl ?_|refine af.dD hX kn rfl rfl rfl rfl rfl rfl V rfl ?_|refine af.zU kn rfl rfl (kL 7) rfl rfl (λ_=>⟨_,_,rfl,.inr rfl,rfl⟩) rfl rfl ?_|refine af.uu hX kn rfl rfl rfl rfl rfl rfl rfl rfl rfl rfl rfl rfl rfl rfl rfl rfl rfl rfl (λh=>by cases h) rfl rfl rfl (show(0+1)*112<=140737488355328 by decide) rfl (m:=1) rfl ?_|refine af.sliceB hX kn rfl rfl rfl rfl rfl rfl rfl rfl (l:=none) (h:=some t.length) rfl (Uf rfl N) (ago _) (aeE _) ?_|(refine uA rfl ?_ ?_<;>(try (show(_:Nat)*_<=_;dsimp only))))
 refine AK.xj 1000002 (cells:=ak (fR (⟨code,Y,2,[]⟩::t))) (ak (fR t)) (ak [sS ⟨code,Y,2,[]⟩]) Z (mM _ _) Z ?_;exact dm
def KO(a b c d:Int)(v:Vl)(T:L Vl)(g u m:Int)(U:Vl)(code:L Nd)(W:Nat)(x:Vl)(q:L Vl)(t:List iJ)(C:T.length<=500000000)(ha:q.length<=500000000)(B:t.length<=1099511627776):cJ 55 ⟨a,b,c,d,v::T,⟨code,W,2,(x::q)⟩::t,g,u,m,U⟩ [.ptr 1000002 (0+t.length*4)] (ag 0) ⟨a,b,c,d,v::(x::q).reverse,t,g,u,m,U⟩:=by
 have h2:=vF ⟨code,W,2,(x::q)⟩ t;have N:=Gq ⟨code,W,2,(x::q)⟩ t;have K:i64.wrap (((((⟨code,W,2,(x::q)⟩:iJ)::t).length:Nat):Int)-1)=(t.length:Nat):=by
  rw[iy dG dG];simp only[aac];omega
 have I:i64.wrap ((((T.length+1:Nat)):Int)-1)=(T.length:Nat):=by rw[iy bn bn];omega
 have A:((((T.length+1:Nat)):Int)==0)=false:=beq_eq_false_iff_ne.2 bn;obtain⟨J,V,S,P,Y,D,M⟩:=v;have H:=Kn J V S P Y D M T;have G:=fS x q bn;have Q:aa (x::q)++aa [.mk J V S P Y D M]=sR (.mk J V S P Y D M::(x::q).reverse):=by rw[sR,agN,afZ,lQ]
 have O:(bC (aa (x::q))).length=(q.length+1)*7:=by rw[dK (rows:=aa (x::q)) (s:=7) (gZ _),aG];rfl
 have E:((aa (x::q)).length+1)*112<=140737488355328:=by rw[aG,aac];omega
 refine mn func55 call55 λβ hf=>?_
 repeat' ((fail_if_success (refine lR 28 ?_));first|refine om ?_|refine zc ?_ ?_|(intro h;first|(cases h;done)|rw[h]|skip)|refine AK.skip ?_|refine AK.seq ?_|refine AK.block ?_|refine AK.exit Z ?_|refine af.dD hX kn Z Z Z Z Z Z h2 Z ?_|refine af.jV hX kn Z Z Z Z Z Z Z Z Z T.length I (aeJ _) ?_|refine af.dD hX kn Z Z Z Z Z Z H Z ?_|refine af.dD hX kn Z Z Z Z Z Z N Z ?_|refine af.mq kn Z Z Z Z Z Z G Z ?_|refine af.mR hX kn Z Z Z Z Z Z Z Z Z Z Z Z Z Z Z (aa (x::q)) [] (aec _).symm (aG (x::q)).symm O Z Z Z Z Z Z Z E Q (m:=(Vl.mk J V S P Y D M::(x::q).reverse).length) (jC _) Z ?_|refine af.sliceB hX kn Z Z Z Z Z Z Z Z (l:=none) (h:=some t.length) Z (Uf Z K) (ago _) (aeE _) ?_|(refine uA Z ?_ ?_<;>(try (show(_:Nat)*_<=_;dsimp only))))
 refine AK.xj 1000002 (cells:=ak (fR (⟨code,W,2,(x::q)⟩::t))) (ak (fR t)) (ak [sS ⟨code,W,2,(x::q)⟩]) Z (mM _ _) Z ?_;exact dm
def KP(a b c d:Int)(T:L Vl)(g u m:Int)(U:Vl)(code:L Nd)(Y:Nat)(t:List iJ)(E:t.length<=1099511627776):cJ 55 ⟨a,b,c,d,T,⟨code,Y,3,[]⟩::t,g,u,m,U⟩ [.ptr 1000002 (0+t.length*4)] (ag 0) ⟨a,b,c,d,T,t,g,u,m,U⟩:=by
 have h2:=vF ⟨code,Y,3,[]⟩ t;have V:=Gq ⟨code,Y,3,[]⟩ t;have N:i64.wrap (((((⟨code,Y,3,[]⟩:iJ)::t).length:Nat):Int)-1)=(t.length:Nat):=by
  rw[iy dG dG];simp only[aac];omega
 refine mn func55 call55 λβ hf=>?_
 repeat' ((fail_if_success (refine lR 28 ?_));first|refine om ?_|refine zc ?_ ?_|(intro h;first|(cases h;done)|rw[h]|skip)|refine AK.skip ?_|refine AK.seq ?_|refine AK.block ?_|refine AK.exit Z ?_|refine af.dD hX kn Z Z Z Z Z Z h2 Z ?_|refine af.dD hX kn Z Z Z Z Z Z V Z ?_|refine af.sliceB hX kn Z Z Z Z Z Z Z Z (l:=none) (h:=some t.length) Z (Uf Z N) (ago _) (aeE _) ?_|(refine uA Z ?_ ?_<;>(try (show(_:Nat)*_<=_;dsimp only))))
 refine AK.xj 1000002 (cells:=ak (fR (⟨code,Y,3,[]⟩::t))) (ak (fR t)) (ak [sS ⟨code,Y,3,[]⟩]) Z (mM _ _) Z ?_;exact dm
def KQ(a b c d:Int)(T:L Vl)(g u m:Int)(U:Vl)(code:L Nd)(Y:Nat)(x:Vl)(q:L Vl)(t:List iJ)(G:g<=u)(E:t.length<=1099511627776):cJ 55 ⟨a,b,c,d,T,⟨code,Y,3,x::q⟩::t,g,u,m,U⟩ [.ptr 1000002 (0+t.length*4)] (ag 12) ⟨a,b,c,d,T,⟨code,Y,3,x::q⟩::t,g,u,m,U⟩:=by
 have h2:=vF ⟨code,Y,3,x::q⟩ t;have V:=Gq ⟨code,Y,3,x::q⟩ t;have N:i64.wrap (((((⟨code,Y,3,x::q⟩:iJ)::t).length:Nat):Int)-1)=(t.length:Nat):=by
  rw[iy dG dG];simp only[aac];omega
 have W:=Sr ⟨a,b,c,d,T,⟨code,Y,3,x::q⟩::t,g,u,m,U⟩ G;have A:decide ((((aa (x::q)).length:Nat):Int)>0)=true:=aak (by rw[aG,aac];omega);refine mn func55 call55 λβ hf=>?_
 repeat' (first|refine om ?_|refine zc ?_ ?_|(intro h;first|(cases h;done)|rw[h]|skip)|refine AK.skip ?_|refine AK.seq ?_|refine AK.block ?_|refine AK.exit Z ?_|refine af.dD hX kn Z Z Z Z Z Z h2 Z ?_|refine af.dD hX kn Z Z Z Z Z Z V Z ?_|refine Oc ?_ (hq:=W)|(refine uA Z ?_ ?_<;>(try (show(_:Nat)*_<=_;dsimp only))))
 all_goals rfl
def KR(a b c d:Int)(T:L Vl)(g u m:Int)(U:Vl)(code:L Nd)(Y:Nat)(x:Vl)(q:L Vl)(t:List iJ)(G:u<g)(K:Rh g)(E:0<=u)(B:T.length<=500000000)(A:t.length<=1099511627776):cJ 55 ⟨a,b,c,d,T,⟨code,Y,3,x::q⟩::t,g,u,m,U⟩ [.ptr 1000002 (0+t.length*4)] (ag 0) ⟨a,b,c,d,x::T,⟨code,0,3,q⟩::t,g,u+1,m,U⟩:=by
 have h2:=vF ⟨code,Y,3,x::q⟩ t;have N:=Gq ⟨code,Y,3,x::q⟩ t;have p:i64.wrap (((((⟨code,Y,3,x::q⟩:iJ)::t).length:Nat):Int)-1)=(t.length:Nat):=by
  rw[iy dG dG];simp only[aac];omega
 have I:=Ss ⟨a,b,c,d,T,⟨code,Y,3,x::q⟩::t,g,u,m,U⟩ G K E;have hc:decide ((((aa (x::q)).length:Nat):Int)>0)=true:=aak (by rw[aG,aac];omega);obtain⟨J,Q,P,O,W,D,M⟩:=x;have H:=P5 J Q P O W D M T;have C:((sR T).length+1)*112<=140737488355328:=by rw[jC];omega
 have V:=WT ⟨code,Y,3,.mk J Q P O W D M::q⟩ t q;have S:=Sq ⟨code,Y,3,q⟩ t;refine mn func55 call55 λβ hf=>?_
 repeat' (first|refine om ?_|refine zc ?_ ?_|(intro h;first|(cases h;done)|rw[h]|skip)|refine AK.skip ?_|refine AK.seq ?_|refine AK.block ?_|refine AK.exit Z ?_|refine af.dD hX kn Z Z Z Z Z Z h2 Z ?_|refine af.dD hX kn Z Z Z Z Z Z N Z ?_|refine Oc ?_ (hq:=I)|refine uI Z (0) Z (Z) Z ?_|refine af.mR hX kn Z Z Z Z Z Z Z Z Z Z Z Z Z Z Z (sR T) [] (aec _).symm (jC _).symm (vf _) Z Z Z Z Z Z Z C Z (m:=T.length+1) (by rw[aaz,jC];rfl) Z ?_|refine af.jV hX kn Z Z Z Z Z Z Z Z Z T.length Z (aeJ _) ?_|refine af.store hX kn Z Z Z Z Z Z Z Z Z (H _ Z) Z ?_|refine af.sliceFrom hX kn Z Z Z Z Z Z Z Z (m:=1) Z (afy (aeE _)) ?_|refine af.store hX kn Z Z Z Z Z Z Z Z Z V Z ?_|refine af.store hX kn Z Z Z Z Z Z Z Z Z S Z ?_|(refine uA Z ?_ ?_<;>(try (show(_:Nat)*_<=_;dsimp only))))
 all_goals rfl
def KS(a b c d:Int)(T:L Vl)(g u m:Int)(U:Vl)(code:L Nd)(Y:Nat)(P:L Vl)(t:List iJ)(G:T.length<=500000000)(E:t.length<=1099511627776):cJ 55 ⟨a,b,c,d,[],⟨code,Y,4,P⟩::t,g,u,m,U⟩ [.ptr 1000002 (0+t.length*4)] (ag 14) ⟨a,b,c,d,[],⟨code,Y,4,P⟩::t,g,u,m,U⟩:=by
 have h2:=vF ⟨code,Y,4,P⟩ t;have N:i64.wrap (((((⟨code,Y,4,P⟩:iJ)::t).length:Nat):Int)-1)=(t.length:Nat):=by
  rw[iy dG dG];simp only[aac];omega
 have W:=Xt ⟨a,b,c,d,[],⟨code,Y,4,P⟩::t,g,u,m,U⟩ Z;refine mn func55 call55 λβ hf=>?_
 repeat' (first|refine om ?_|refine zc ?_ ?_|(intro h;first|(cases h;done)|rw[h]|skip)|refine AK.skip ?_|refine AK.seq ?_|refine AK.block ?_|refine AK.exit Z ?_|refine af.dD hX kn Z Z Z Z Z Z h2 Z ?_|refine Oc ?_ (hq:=W)|(refine uA Z ?_ ?_<;>(try (show(_:Nat)*_<=_;dsimp only))))
 all_goals rfl
def KV(a b c d:Int)(J V S:Int)(Q:L UInt8)(Y:L Vl)(D:L Ty)(M:L Nd)(B:¬V=1)(T:L Vl)(g u m:Int)(U:Vl)(code:L Nd)(W:Nat)(P:L Vl)(t:List iJ)(G:T.length<=500000000)(E:t.length<=1099511627776):cJ 55 ⟨a,b,c,d,.mk J V S Q Y D M::T,⟨code,W,4,P⟩::t,g,u,m,U⟩ [.ptr 1000002 (0+t.length*4)] (ag 0) ⟨a,b,c,d,T,t,g,u,m,U⟩:=by
 have h2:=vF ⟨code,W,4,P⟩ t;have N:i64.wrap (((((⟨code,W,4,P⟩:iJ)::t).length:Nat):Int)-1)=(t.length:Nat):=by
  rw[iy dG dG];simp only[aac];omega
 have O:=Cq ⟨a,b,c,d,.mk J V S Q Y D M::T,⟨code,W,4,P⟩::t,g,u,m,U⟩ (.mk J V S Q Y D M) T Z bn;have A:(V==1)=false:=beq_eq_false_iff_ne.2 B;refine mn func55 call55 λβ hf=>?_
 repeat' ((fail_if_success (refine lR 28 ?_));first|refine om ?_|refine zc ?_ ?_|(intro h;first|(cases h;done)|rw[h]|skip)|refine AK.skip ?_|refine AK.seq ?_|refine AK.block ?_|refine AK.exit Z ?_|refine af.dD hX kn Z Z Z Z Z Z h2 Z ?_|refine Oc ?_ (hq:=O)|refine af.sliceB hX kn Z Z Z Z Z Z Z Z (l:=none) (h:=some t.length) Z (Uf Z N) (ago _) (aeE _) ?_|(refine uA Z ?_ ?_<;>(try (show(_:Nat)*_<=_;dsimp only))))
 refine AK.xj 1000002 (cells:=ak (fR (⟨code,W,4,P⟩::t))) (ak (fR t)) (ak [sS ⟨code,W,4,P⟩]) Z (mM _ _) Z ?_;exact dm
def KT(a b c d:Int)(J V:Int)(S:L UInt8)(Y:L Vl)(D:L Ty)(M:L Nd)(T:L Vl)(g u m:Int)(U:Vl)(code:L Nd)(W:Nat)(P:L Vl)(t:List iJ)(G:g<=u)(O:T.length<=500000000)(E:t.length<=1099511627776):cJ 55 ⟨a,b,c,d,.mk J 1 V S Y D M::T,⟨code,W,4,P⟩::t,g,u,m,U⟩ [.ptr 1000002 (0+t.length*4)] (ag 12) ⟨a,b,c,d,T,⟨code,W,4,P⟩::t,g,u,m,U⟩:=by
 have h2:=vF ⟨code,W,4,P⟩ t;have N:i64.wrap (((((⟨code,W,4,P⟩:iJ)::t).length:Nat):Int)-1)=(t.length:Nat):=by
  rw[iy dG dG];simp only[aac];omega
 have Q:=Cq ⟨a,b,c,d,.mk J 1 V S Y D M::T,⟨code,W,4,P⟩::t,g,u,m,U⟩ (.mk J 1 V S Y D M) T Z bn;have hq:=Sr ⟨a,b,c,d,T,⟨code,W,4,P⟩::t,g,u,m,U⟩ G;refine mn func55 call55 λβ hf=>?_
 repeat' (first|refine om ?_|refine zc ?_ ?_|(intro h;first|(cases h;done)|rw[h]|skip)|refine AK.skip ?_|refine AK.seq ?_|refine AK.block ?_|refine AK.exit Z ?_|refine af.dD hX kn Z Z Z Z Z Z h2 Z ?_|refine Oc ?_ (hq:=Q)|refine Oc ?_ (hq:=hq)|(refine uA Z ?_ ?_<;>(try (show(_:Nat)*_<=_;dsimp only))))
 all_goals rfl
def KU(a b c d:Int)(J V:Int)(S:L UInt8)(Y:L Vl)(D:L Ty)(M:L Nd)(T:L Vl)(g u m:Int)(U:Vl)(code:L Nd)(W:Nat)(P:L Vl)(t:List iJ)(G:u<g)(K:Rh g)(E:0<=u)(N:T.length<=500000000)(I:t.length<=1099511627776):cJ 55 ⟨a,b,c,d,.mk J 1 V S Y D M::T,⟨code,W,4,P⟩::t,g,u,m,U⟩ [.ptr 1000002 (0+t.length*4)] (ag 0) ⟨a,b,c,d,T,⟨code,0,4,P⟩::t,g,u+1,m,U⟩:=by
 have h2:=vF ⟨code,W,4,P⟩ t;have H:i64.wrap (((((⟨code,W,4,P⟩:iJ)::t).length:Nat):Int)-1)=(t.length:Nat):=by
  rw[iy dG dG];simp only[aac];omega
 have O:=Cq ⟨a,b,c,d,.mk J 1 V S Y D M::T,⟨code,W,4,P⟩::t,g,u,m,U⟩ (.mk J 1 V S Y D M) T Z bn;have hq:=Ss ⟨a,b,c,d,T,⟨code,W,4,P⟩::t,g,u,m,U⟩ G K E;have Q:=Sq ⟨code,W,4,P⟩ t;refine mn func55 call55 λβ hf=>?_
 repeat' (first|refine om ?_|refine zc ?_ ?_|(intro h;first|(cases h;done)|rw[h]|skip)|refine AK.skip ?_|refine AK.seq ?_|refine AK.block ?_|refine AK.exit Z ?_|refine af.dD hX kn Z Z Z Z Z Z h2 Z ?_|refine Oc ?_ (hq:=O)|refine Oc ?_ (hq:=hq)|refine af.store hX kn Z Z Z Z Z Z Z Z Z Q Z ?_|(refine uA Z ?_ ?_<;>(try (show(_:Nat)*_<=_;dsimp only))))
 all_goals rfl
end Go.Proofs
namespace Go.Proofs
open Go.cK
def agM(u H p:Prop)[Decidable u][Decidable H][Decidable p]:(if u then 0 else if H then 2 else if p then 3 else 1:Nat)<=3:=by
 by_cases h1:u
 ·rw[if_pos h1];omega
 rw[if_neg h1];by_cases h2:H
 ·rw[if_pos h2];omega
 rw[if_neg h2];by_cases V:p
 ·rw[if_pos V];omega
 ·rw[if_neg V];omega
def oJ(p:Int):cr p<=3:=by unfold cr;exact agM _ _ _
def oK{S:ct}{n:Nat}{l r:L Vl}(B:n<=3)(E:S.st.length<=1099511627776)(h:jS n S.st=some (l,r)):cJ 89 S [.c (ag (n:Nat))] (.eY [.sl 7 (aa l),.bool true]) {S with st:=r}:=by
 have h1:=P8 S n B E;rw[h]at h1;exact h1
attribute [local irreducible] AK af bg cn cP dP nI cr
def uf(S u:ct)(T N P:Int)(s:L UInt8)(J:L Nd)(l r:L Vl)(e:Int)(G:P=40\/P=41\/P=42\/P=43\/P=44)(I:jS (cr P) S.st=some (l,r))(E:S.st.length<=1099511627776)(C:cJ 91 {S with st:=r} [.c (aW (.mk T N P s J)),.c (.sl 7 (aa l))] (ag e) u):cJ 58 S [.c (aW (.mk T N P s J))] (ag e) u:=by
 have Y:=lP P bn;have h1:=oK (oJ P) E I;generalize cr P=w at *;clear I;rcases G with rfl|rfl|rfl|rfl|rfl <;>
 ((refine mn func58 call58 λβ hf=>?_);(repeat' (first|refine om ?_|refine zc ?_ ?_|(intro h;first|(cases h;done)|rw[h]|skip)|refine uC Z Y ?_|refine ve ?_ (hq:=h1)|refine ve ?_ (hq:=C)));(all_goals rfl))
def jE(S u:ct)(T N P:Int)(s:L UInt8)(J:L Nd)(l r:L Vl)(e:Int)(G:P=45\/P=46\/P=47\/P=48\/P=49\/P=50\/P=51\/P=53\/P=54\/P=56)(I:jS (cr P) S.st=some (l,r))(E:S.st.length<=1099511627776)(C:cJ 92 {S with st:=r} [.c (aW (.mk T N P s J)),.c (.sl 7 (aa l))] (ag e) u):cJ 58 S [.c (aW (.mk T N P s J))] (ag e) u:=by
 have Y:=lP P bn;have h1:=oK (oJ P) E I;generalize cr P=w at *;clear I;rcases G with rfl|rfl|rfl|rfl|rfl|rfl|rfl|rfl|rfl|rfl <;>
 ((refine mn func58 call58 λβ hf=>?_);(repeat' (first|refine om ?_|refine zc ?_ ?_|(intro h;first|(cases h;done)|rw[h]|skip)|refine uC Z Y ?_|refine ve ?_ (hq:=h1)|refine ve ?_ (hq:=C)));(all_goals rfl))
def fX(S u:ct)(T N P:Int)(s:L UInt8)(J:L Nd)(l r:L Vl)(e:Int)(G:P=52\/P=55\/P=58\/P=60\/P=64\/P=65\/P=66\/P=67\/P=68)(I:jS (cr P) S.st=some (l,r))(E:S.st.length<=1099511627776)(C:cJ 93 {S with st:=r} [.c (aW (.mk T N P s J)),.c (.sl 7 (aa l))] (ag e) u):cJ 58 S [.c (aW (.mk T N P s J))] (ag e) u:=by
 have Y:=lP P bn;have h1:=oK (oJ P) E I;generalize cr P=w at *;clear I;rcases G with rfl|rfl|rfl|rfl|rfl|rfl|rfl|rfl|rfl <;>
 ((refine mn func58 call58 λβ hf=>?_);(repeat' (first|refine om ?_|refine zc ?_ ?_|(intro h;first|(cases h;done)|rw[h]|skip)|refine uC Z Y ?_|refine ve ?_ (hq:=h1)|refine ve ?_ (hq:=C)));(all_goals rfl))
def rG(S u:ct)(T N P:Int)(s:L UInt8)(J:L Nd)(l r:L Vl)(e:Int)(G:P=57\/P=59\/P=61\/P=62\/P=63)(I:jS (cr P) S.st=some (l,r))(E:S.st.length<=1099511627776)(C:cJ 94 {S with st:=r} [.c (aW (.mk T N P s J)),.c (.sl 7 (aa l))] (ag e) u):cJ 58 S [.c (aW (.mk T N P s J))] (ag e) u:=by
 have Y:=lP P bn;have h1:=oK (oJ P) E I;generalize cr P=w at *;clear I;rcases G with rfl|rfl|rfl|rfl|rfl <;>
 ((refine mn func58 call58 λβ hf=>?_);(repeat' (first|refine om ?_|refine zc ?_ ?_|(intro h;first|(cases h;done)|rw[h]|skip)|refine uC Z Y ?_|refine ve ?_ (hq:=h1)|refine ve ?_ (hq:=C)));(all_goals rfl))
def eE(S u:ct)(T N P:Int)(s:L UInt8)(J:L Nd)(l r:L Vl)(e:Int)(G:P=69\/P=70\/P=71\/P=72\/P=93\/P=94\/P=95)(I:jS (cr P) S.st=some (l,r))(E:S.st.length<=1099511627776)(C:cJ 95 {S with st:=r} [.c (ag P),.c (.sl 7 (aa l))] (ag e) u):cJ 58 S [.c (aW (.mk T N P s J))] (ag e) u:=by
 have Y:=lP P bn;have h1:=oK (oJ P) E I;generalize cr P=w at *;clear I;rcases G with rfl|rfl|rfl|rfl|rfl|rfl|rfl <;>
 ((refine mn func58 call58 λβ hf=>?_);(repeat' (first|refine om ?_|refine zc ?_ ?_|(intro h;first|(cases h;done)|rw[h]|skip)|refine uC Z Y ?_|refine ve ?_ (hq:=h1)|refine ve ?_ (hq:=C)));(all_goals rfl))
def ie(S u:ct)(T N P:Int)(s:L UInt8)(J:L Nd)(l r:L Vl)(e:Int)(G:P=73\/P=74\/P=75\/P=76\/P=77\/P=78\/P=79\/P=80\/P=81\/P=82\/P=83)(I:jS (cr P) S.st=some (l,r))(E:S.st.length<=1099511627776)(C:cJ 96 {S with st:=r} [.c (aW (.mk T N P s J)),.c (.sl 7 (aa l))] (ag e) u):cJ 58 S [.c (aW (.mk T N P s J))] (ag e) u:=by
 have Y:=lP P bn;have h1:=oK (oJ P) E I;generalize cr P=w at *;clear I;rcases G with rfl|rfl|rfl|rfl|rfl|rfl|rfl|rfl|rfl|rfl|rfl <;>
 ((refine mn func58 call58 λβ hf=>?_);(repeat' (first|refine om ?_|refine zc ?_ ?_|(intro h;first|(cases h;done)|rw[h]|skip)|refine uC Z Y ?_|refine ve ?_ (hq:=h1)|refine ve ?_ (hq:=C)));(all_goals rfl))
def kM(S u:ct)(T N P:Int)(s:L UInt8)(J:L Nd)(l r:L Vl)(e:Int)(G:P=84\/P=85\/P=86\/P=87\/P=88\/P=89\/P=90\/P=91\/P=92)(I:jS (cr P) S.st=some (l,r))(E:S.st.length<=1099511627776)(C:cJ 97 {S with st:=r} [.c (aW (.mk T N P s J)),.c (.sl 7 (aa l))] (ag e) u):cJ 58 S [.c (aW (.mk T N P s J))] (ag e) u:=by
 have Y:=lP P bn;have h1:=oK (oJ P) E I;generalize cr P=w at *;clear I;rcases G with rfl|rfl|rfl|rfl|rfl|rfl|rfl|rfl|rfl <;>
 ((refine mn func58 call58 λβ hf=>?_);(repeat' (first|refine om ?_|refine zc ?_ ?_|(intro h;first|(cases h;done)|rw[h]|skip)|refine uC Z Y ?_|refine ve ?_ (hq:=h1)|refine ve ?_ (hq:=C)));(all_goals rfl))
end Go.Proofs
namespace Go.Proofs
open Go.cK
def Fit(t:Ty)(v:Vl):Prop:=gH t v=true/\aM v<=25000000
def ep:L Ty->L Vl->Prop
 |[],[]=>True
 |t::s,v::l=>Fit t v/\ep s l
 |_,_=>False
def bP:∀{s:L Ty}{l:L Vl},ep s l->s.length=l.length
 |[],[],_=>rfl
 |t::s,v::l,h=>by simp only[aac,bP h.2]
 |[],_::_,h=>h.elim
 |_::_,[],h=>h.elim
def Vo{l:L Vl}(h:ep [] l):l=[]:=by
 cases l with
 |nil=>rfl
 |cons _ _=>exact h.elim
def bl{t:Ty}{s:L Ty}{l:L Vl}(h:ep (t::s) l):∃v q,l=v::q/\Fit t v/\ep s q:=by
 cases l with
 |nil=>exact h.elim
 |cons v q=>exact⟨v,q,Z,h.1,h.2⟩
def Gr:∀{s:L Ty}{l:L Vl}{i:Nat}{t:Ty},ep s l->s[i]?=some t->∃v,l[i]?=some v/\Fit t v
 |t::s,v::l,0,u,h,e=>⟨v,rfl,by simp at e;subst e;exact h.1⟩
 |t::s,v::l,i+1,u,h,e=>Gr (i:=i) h.2 (by simpa using e)
 |[],_,_,_,_,e=>by simp at e
 |_::_,[],_,_,h,_=>h.elim
def Cr:∀{s:L Ty}{l:L Vl}(i:Nat),ep s l->ep (s.take i) (l.take i)
 |_,_,0,_=>trivial
 |t::s,v::l,i+1,h=>⟨h.1,Cr i h.2⟩
 |[],[],i+1,_=>trivial
 |[],_::_,_+1,h=>h.elim
 |_::_,[],_+1,h=>h.elim
def Cs:∀{s:L Ty}{l:L Vl}(i:Nat),ep s l->ep (s.drop i) (l.drop i)
 |_,_,0,h=>h
 |t::s,v::l,i+1,h=>Cs (s:=s) (l:=l) i h.2
 |[],[],i+1,_=>trivial
 |[],_::_,_+1,h=>h.elim
 |_::_,[],_+1,h=>h.elim
def Bh:∀{s r:L Ty}{l m:L Vl},ep s l->ep r m->ep (s++r) (l++m)
 |[],_,[],_,_,h=>h
 |t::s,_,v::l,_,h,h2=>⟨h.1,Bh h.2 h2⟩
 |[],_,_::_,_,h,_=>h.elim
 |_::_,_,[],_,h,_=>h.elim
def aJ(P:Int)(J:L Nd)(S:ct):MR:=match jS (cr P) S.st with
 |some (l,r)=>zx P J l {S with st:=r}
 |none=>(14,{S with st:=[]})
def bY(S:ct)(r:L Ty×Bool)(o:MR):Prop :=
 (o.1=0/\o.2.fr=S.fr/\ep r.1 o.2.st/\r.2=false)\/o.1=11\/o.1=13
def bh(Y:Int)(T:L UInt8)(P:Int)(J:L Nd)(S:ct):Prop:=cJ 58 S [.c (aW (.mk 2 Y P T J))] (ag (aJ P J S).1) (aJ P J S).2
def Ed:∀(l st:L Vl),(nI l st).1=13\/((nI l st).1=0/\(nI l st).2=l.reverse++st/\∀v∈l,gQ v<=200)
 |[],st => .inr ⟨Z,Z,λv h=>by simp at h⟩
 |x::l,st=>by
  unfold nI;by_cases h:gQ x>200
  ·simp_all
  ·rw[if_neg h];rcases Ed l (x::st)with h1|⟨h1,h2,V⟩
   ·exact .inl h1
   ·simp_all
def K1{t:Ty}{v:Vl}(h:gH t v=true)(Y:gQ v<=200):Fit t v:=⟨h,by have:=BL h;omega⟩
def cu{S:ct}{s:L Ty}{t:Ty}{v:Vl}(h:gH t v=true)(Y:ep s S.st):bY S (t::s,false) (bq S [v]):=by
 rcases Ed [v] S.st with h1|⟨h1,h2,V⟩
 ·exact .inr (.inr h1)
 ·refine .inl ⟨h1,Z,?_,Z⟩;show ep _ (nI [v] S.st).2;rw[h2];exact⟨K1 h (V v cS),Y⟩
def Kv{S:ct}{s:L Ty}{t u:Ty}{v w:Vl}(h:gH t v=true)(C:gH u w=true)(Y:ep s S.st):bY S (t::u::s,false) (bq S [w,v]):=by
 rcases Ed [w,v] S.st with h1|⟨h1,h2,V⟩
 ·exact .inr (.inr h1)
 ·refine .inl ⟨h1,Z,?_,Z⟩;show ep _ (nI [w,v] S.st).2;rw[h2];exact⟨K1 h (V v cS),K1 C (V w cS),Y⟩
def kS{P:Int}{J:L Nd}{B:L Ty}(h:bW P J=some B):J.length=(gC P).length/\jO (gC P) J []=some B:=by
 unfold bW at h;split at h
 ·cases h
 ·simp_all
def cQ{P:Int}{J:L Nd}{B:L Ty}(h:bW P J=some B)(Y:gC P=[]):J=[]/\B=[]:=by
 obtain⟨h1,h2⟩:=kS h;rw[Y]at h1 h2;obtain rfl:=List.length_eq_zero_iff.1 h1;simp only[jO]at h2;cases h2;exact⟨Z,Z⟩
def Gs{P:Int}{J:L Nd}{B:L Ty}(h:bW P J=some B)(Y:gC P=[110]):∃N p q x,J=[.mk 0 (N:Nat) p q x]/\N<=40/\B=[]:=by
 obtain⟨h1,h2⟩:=kS h;rw[Y]at h1 h2;obtain⟨y,rfl⟩:=List.length_eq_one_iff.1 h1;obtain⟨T,N,p,q,x⟩:=y;simp only[jO,if_true]at h2;split at h2
 ·rename_i c;obtain⟨rfl,u,H⟩:=c;cases h2;exact⟨N.toNat,p,q,x,by rw[Int.toNat_of_nonneg u],bn,Z⟩
 ·cases h2
def Su:cr 40=1:=by decide +kernel
def Sv:cr 41=0:=by decide +kernel
def Sw:cr 42=2:=by decide +kernel
def Sx:cr 43=0:=by decide +kernel
def Sy:cr 44=1:=by decide +kernel
def QO(S:ct)(Y:Int)(T:L UInt8)(J:L Nd)(B s:L Ty)(r:L Ty×Bool)(hf:bW 40 J=some B)(G:ep s S.st)(E:s.length<=340)(A:gV 40 J s=(r,0)):bh Y T 40 J S/\bY S r (aJ 40 J S):=by
 obtain⟨a,b,c,d,st,H,g,u,m,U⟩:=S;obtain⟨rfl,rfl⟩:=cQ hf bT;have W:=bP G;cases s with
 |nil=>cases A
 |cons t s =>
  obtain⟨v,q,rfl,M,hq⟩:=bl G;cases A;have e:aJ 40 [] ⟨a,b,c,d,v::q,H,g,u,m,U⟩=(0,⟨a,b,c,d,q,H,g,u,m,U⟩):=by unfold aJ;rw[Su];rfl
  unfold bh;rw[e];exact⟨uf _ _ 2 Y 40 T [] [v] q 0 bT (by rw[Su];rfl) (by simp only[aac]at *;omega) (TG _ Y T [v]),.inl ⟨Z,Z,hq,Z⟩⟩
def QT(S:ct)(Y:Int)(T:L UInt8)(J:L Nd)(B s:L Ty)(r:L Ty×Bool)(hf:bW 42 J=some B)(G:ep s S.st)(E:s.length<=340)(A:gV 42 J s=(r,0)):bh Y T 42 J S/\bY S r (aJ 42 J S):=by
 obtain⟨a,b,c,d,st,H,g,u,m,U⟩:=S;obtain⟨rfl,rfl⟩:=cQ hf bT;have W:=bP G;rcases s with _|⟨Q,_|⟨P,s⟩⟩
 ·cases A
 ·cases A
 ·obtain⟨v,D,rfl,M,V⟩:=bl G;obtain⟨w,q,rfl,N,hq⟩:=bl V;cases A;have e:aJ 42 [] ⟨a,b,c,d,v::w::q,H,g,u,m,U⟩=bq ⟨a,b,c,d,q,H,g,u,m,U⟩ [v,w]:=by unfold aJ;rw[Sw];rfl
  unfold bh;rw[e];simp only[aac]at W E;exact⟨uf _ _ 2 Y 42 T [] [v,w] q _ bT (by rw[Sw];rfl) dG (TH ⟨a,b,c,d,q,H,g,u,m,U⟩ Y T v w (by have:=M.2;omega) (by have:=N.2;omega) (by show q.length<=_;omega)),Kv (S:=⟨a,b,c,d,q,H,g,u,m,U⟩) N.1 M.1 hq⟩
def Sz{α:Type}{l:List α}{i:Nat}{d:α}(h:i<l.length):l[i]?=some (l.getD i d):=by simp_all
def Ug(S:ct)(W:Int)(T:L UInt8)(J:L Nd)(B s:L Ty)(r:L Ty×Bool)(hf:bW 41 J=some B)(G:ep s S.st)(E:s.length<=340)(A:gV 41 J s=(r,0)):bh W T 41 J S/\bY S r (aJ 41 J S):=by
 obtain⟨a,b,c,d,st,H,g,u,m,U⟩:=S;obtain⟨N,p,q,x,rfl,K,rfl⟩:=Gs hf bT;have Q:=bP G;simp only at G Q;have V:(if 1<=(N:Int)/\(N:Int)<=s.length/\mH (s.getD ((N:Int)-1).toNat kX)=true then eT (s.getD ((N:Int)-1).toNat kX::s)else aR 5)=(r,0):=A;split at V
 ·rename_i P;obtain⟨I,D,C⟩:=P;cases V;rw[show((N:Int)-1).toNat=N-1 from by omega];have O:=Sz (l:=s) (i:=N-1) (d:=kX) bn;obtain⟨v,M,Y⟩:=Gr G O;have e:aJ 41 [.mk 0 (N:Nat) p q x] ⟨a,b,c,d,st,H,g,u,m,U⟩=bq ⟨a,b,c,d,st,H,g,u,m,U⟩ [v]:=by
   unfold aJ;rw[Sv];show bq _ [lV st ((N:Int).toNat-1)]=_;rw[aaC,WM M]
  unfold bh;rw[e];exact⟨uf _ _ 2 W 41 T _ [] st _ bT (by rw[Sv];rfl) UD (WN ⟨a,b,c,d,st,H,g,u,m,U⟩ W T N p q x [] v bn M (by have:=Y.2;omega) UD),cu (S:=⟨a,b,c,d,st,H,g,u,m,U⟩) Y.1 G⟩
 ·cases V
def Uh(S:ct)(W:Int)(T:L UInt8)(J:L Nd)(B s:L Ty)(r:L Ty×Bool)(hf:bW 43 J=some B)(Y:ep s S.st)(E:s.length<=340)(A:gV 43 J s=(r,0)):bh W T 43 J S/\bY S r (aJ 43 J S):=by
 obtain⟨a,b,c,d,st,fr,g,u,m,said⟩:=S;obtain⟨N,p,q,x,rfl,P,rfl⟩:=Gs hf bT;have H:=bP Y;simp only at Y H;have V:(if(N:Int)<s.length then eT (s.getD (N:Int).toNat kX::(s.take (N:Int).toNat++s.drop ((N:Int).toNat+1)))else aR 5)=(r,0):=A;split at V
 ·rename_i O;cases V;rw[aaC];have Q:=Sz (l:=s) (i:=N) (d:=kX) bn;obtain⟨v,M,U⟩:=Gr Y Q;have e:aJ 43 [.mk 0 (N:Nat) p q x] ⟨a,b,c,d,st,fr,g,u,m,said⟩=(0,⟨a,b,c,d,v::(st.take N++st.drop (N+1)),fr,g,u,m,said⟩):=by
   unfold aJ;rw[Sx];show((0,{self:=a,iE:=b,iF:=c,balance:=d,st:=lV st (N:Int).toNat::(st.take (N:Int).toNat++st.drop ((N:Int).toNat+1)),fr:=fr,cC:=g,used:=u,az:=m,said:=said}):MR)=_;rw[aaC,WM M]
  unfold bh;rw[e];exact⟨uf _ _ 2 W 43 T _ [] st _ bT (by rw[Sx];rfl) UD (WQ ⟨a,b,c,d,st,fr,g,u,m,said⟩ W T N p q x [] v M UD),.inl ⟨Z,Z,⟨U,Bh (Cr N Y) (Cs (N+1) Y)⟩,Z⟩⟩
 ·cases V
def Ui(S:ct)(Y:Int)(T:L UInt8)(J:L Nd)(B s:L Ty)(r:L Ty×Bool)(hf:bW 44 J=some B)(G:ep s S.st)(E:s.length<=340)(A:gV 44 J s=(r,0)):bh Y T 44 J S/\bY S r (aJ 44 J S):=by
 obtain⟨a,b,c,d,st,fr,g,u,m,said⟩:=S;obtain⟨N,p,q,x,rfl,V,rfl⟩:=Gs hf bT;have H:=bP G;simp only at G H;cases s with
 |nil=>cases A
 |cons t s =>
  obtain⟨v,st,rfl,M,hq⟩:=bl G;simp only[aac]at H E;have W:(if(N:Int)<s.length+1 then eT (s.take (N:Int).toNat++t::s.drop (N:Int).toNat)else aR 5)=(r,0):=A;split at W
  ·rename_i U;cases W;rw[aaC];have e:aJ 44 [.mk 0 (N:Nat) p q x] ⟨a,b,c,d,v::st,fr,g,u,m,said⟩=(0,⟨a,b,c,d,st.take N++v::st.drop N,fr,g,u,m,said⟩):=by
    unfold aJ;rw[Sy];show((0,{self:=a,iE:=b,iF:=c,balance:=d,st:=st.take (N:Int).toNat++v::st.drop (N:Int).toNat,fr:=fr,cC:=g,used:=u,az:=m,said:=said}):MR)=_;rw[aaC]
   unfold bh;rw[e];exact⟨uf _ _ 2 Y 44 T _ [v] st _ bT (by rw[Sy];rfl) (by show(v::st).length<=_;simp only[aac];omega) (WS ⟨a,b,c,d,st,fr,g,u,m,said⟩ Y T N p q x v (by show N<=st.length;omega) UD),.inl ⟨Z,Z,Bh (Cr N hq) ⟨M,Cs N hq⟩,Z⟩⟩
  ·cases W
def QB(P:Int)(p:40<=P/\P<=44)(S:ct)(Y:Int)(T:L UInt8)(J:L Nd)(B s:L Ty)(r:L Ty×Bool)(hf:bW P J=some B)(G:ep s S.st)(E:s.length<=340)(A:gV P J s=(r,0)):bh Y T P J S/\bY S r (aJ P J S):=by
 rcases(show P=40\/P=41\/P=42\/P=43\/P=44 by omega)with rfl|rfl|rfl|rfl|rfl
 ·exact QO S Y T J B s r hf G E A
 ·exact Ug S Y T J B s r hf G E A
 ·exact QT S Y T J B s r hf G E A
 ·exact Uh S Y T J B s r hf G E A
 ·exact Ui S Y T J B s r hf G E A
def iS{k n a:Int}{s:L UInt8}{J:L Vl}{B:L Ty}{code:L Nd}{t:Ty}(h:bL (.mk k n a s J B code) t=true):k=bS t/\cz (.mk k n a s J B code)=true/\s.length<=200:=by
 unfold bL at h;by_cases O:k≠bS t\/cz (.mk k n a s J B code)=false\/200<s.length
 ·simp_all
 refine⟨afe λY=>O (.inl Y),?_,bn⟩;cases hq:cz (.mk k n a s J B code)with
 |true=>rfl
 |false=>exact absurd (.inr (.inl hq)) O
def gl{v:Vl}{T:Int}{ts:L Ty}(V:T=2\/T=3\/T=4\/T=5\/T=7)(h:bL v (.mk T ts)=true):∃n,v=aQ T n/\bL (aQ T n) (.mk T ts)=true:=by
 obtain⟨k,n,a,s,J,B,code⟩:=v;obtain⟨D,Y,G⟩:=iS h;simp only[bS]at D;subst D;have:J=[]/\a=0/\s=[]/\B=[]/\code=[]:=by
  rcases V with rfl|rfl|rfl|rfl|rfl<;>simp[bL,cz]at h Y<;>simp_all
 obtain⟨rfl,rfl,rfl,rfl,rfl⟩:=this;exact⟨n,Z,h⟩
def Xh{v:Vl}{ts:L Ty}(h:bL v (.mk 2 ts)=true):v=aQ 2 0\/v=aQ 2 1:=by
 obtain⟨n,rfl,h⟩:=gl (.inl rfl) h;have:0<=n/\n<=1:=by simpa[bL,cz,aQ,bS]using h
 rcases(show n=0\/n=1 by omega)with rfl|rfl
 ·exact .inl Z
 ·exact .inr Z
def nV{T n:Int}{ts:L Ty}(h:(T=2/\0<=n/\n<=1)\/(T=3 /\ -bN<=n/\n<=bN)\/(T=4/\0<=n/\n<=bN)\/(T=5/\0<=n/\n<=bN)\/(T=7/\0<=n/\n<12)):bL (aQ T n) (.mk T ts)=true/\eP (aQ T n)=true:=by
 rcases h with ⟨rfl,h⟩|⟨rfl,h⟩|⟨rfl,h⟩|⟨rfl,h⟩|⟨rfl,h⟩
 all_goals simp[bL,cz,aQ,bS,eP,eg,h]
def Qe{T n:Int}{ts:L Ty}(h:bL (aQ T n) (.mk T ts)=true):(T=2->0<=n/\n<=1)/\(T=3 -> -bN<=n/\n<=bN)/\(T=4->0<=n/\n<=bN)/\(T=5->0<=n/\n<=bN)/\(T=7->0<=n/\n<12):=by
 refine⟨?_,?_,?_,?_,?_⟩<;>(rintro rfl;simpa[bL,cz,aQ,bS]using h)
def tF{v:Vl}{t u:Ty}(h:bL v (.mk 11 [t,u])=true)(Y:eP v=true):∃x y,v=bA x y/\(bL x t=true/\eP x=true)/\(bL y u=true/\eP y=true):=by
 obtain⟨k,n,a,s,J,B,code⟩:=v;obtain⟨D,W,_⟩:=iS h;simp only[bS]at D;subst D;simp[cz]at W;simp[bL,cz,bS,au]at h;obtain⟨rfl,rfl,rfl,rfl⟩:=W;rcases J with _|⟨x,_|⟨y,_|⟨z,r⟩⟩⟩
 ·simp at h
 ·simp at h
 ·simp[dL,eP,eg]at h Y;exact⟨x,y,by rw[h.1];rfl,⟨h.2.1,Y.1⟩,⟨h.2.2,Y.2⟩⟩
 ·simp at h
def kO{x y:Vl}{t u:Ty}(h1:bL x t=true/\eP x=true)(h2:bL y u=true/\eP y=true):bL (bA x y) (.mk 11 [t,u])=true/\eP (bA x y)=true:=by
 simp[bA,bL,cz,bS,au,dL,eP,eg,h1,h2]
def R9{v:Vl}{t:Ty}(h:bL v (.mk 9 [t])=true)(Y:eP v=true):v=cG []\/∃x,v=cG [x]/\bL x t=true/\eP x=true:=by
 obtain⟨k,n,a,s,J,B,code⟩:=v;obtain⟨D,W,_⟩:=iS h;simp only[bS]at D;subst D;simp[cz]at W;simp[bL,cz,bS,aE,au]at h;obtain⟨rfl,rfl,rfl,rfl⟩:=W;rcases J with _|⟨x,_|⟨y,r⟩⟩
 ·exact .inl (by simp at h;rw[h.1];rfl)
 ·simp[aS,eP,eg]at h Y;exact .inr ⟨x,by rw[h.1];rfl,h.2,Y⟩
 ·simp at h
def nW{t:Ty}:bL (cG []) (.mk 9 [t])=true/\eP (cG [])=true:=by simp[cG,bL,cz,bS,aS,eP,eg]
def jw{x:Vl}{t:Ty}(h:bL x t=true/\eP x=true):bL (cG [x]) (.mk 9 [t])=true/\eP (cG [x])=true:=by simp[cG,bL,cz,bS,aE,au,aS,eP,eg,h]
def wI{v:Vl}{t:Ty}(h:bL v (.mk 10 [t])=true)(Y:eP v=true):∃l,v = .mk 10 0 0 [] l [] []/\l.length<=24/\aS l t=true/\eg l=true:=by
 obtain⟨k,n,a,s,J,B,code⟩:=v;obtain⟨D,W,_⟩:=iS h;simp only[bS]at D;subst D;simp[cz]at W;simp[bL,cz,bS,aE,au]at h;obtain⟨rfl,rfl,rfl,rfl⟩:=W;simp[eP]at Y;exact⟨J,by rw[h.2.1.1],h.2.1.2,h.2.2,Y⟩
def F9{l:L Vl}{t:Ty}(E:l.length<=24)(h:aS l t=true)(Y:eg l=true):bL (.mk 10 0 0 [] l [] []) (.mk 10 [t])=true/\eP (.mk 10 0 0 [] l [] [])=true:=by simp[bL,cz,bS,aE,au,eP,h,Y,E]
def abT{v:Vl}{t u:Ty}(h:bL v (.mk 12 [t,u])=true)(Y:eP v=true):∃x,(v = .mk 12 0 0 [] [x] [] []/\bL x t=true\/v = .mk 12 1 0 [] [x] [] []/\bL x u=true)/\eP x=true:=by
 obtain⟨k,n,a,s,J,B,code⟩:=v;obtain⟨D,W,_⟩:=iS h;simp only[bS]at D;subst D;simp[cz]at W;simp[bL,cz,bS]at h;obtain⟨rfl,rfl,rfl,rfl⟩:=W;rcases J with _|⟨x,_|⟨y,r⟩⟩
 ·simp at h
 ·simp[aS,eP,eg]at h Y;rcases(show n=0\/n=1 by omega)with rfl|rfl
  ·exact⟨x,.inl ⟨Z,by simpa[aE,au]using h.2⟩,Y⟩
  ·exact⟨x,.inr ⟨Z,by simpa[aE,au]using h.2⟩,Y⟩
 ·simp at h
def Zy{x:Vl}{t u:Ty}(h:bL x t=true/\eP x=true):bL (.mk 12 0 0 [] [x] [] []) (.mk 12 [t,u])=true/\eP (.mk 12 0 0 [] [x] [] [])=true:=by simp[bL,cz,bS,aE,au,aS,eP,eg,h]
def Zz{x:Vl}{t u:Ty}(h:bL x u=true/\eP x=true):bL (.mk 12 1 0 [] [x] [] []) (.mk 12 [t,u])=true/\eP (.mk 12 1 0 [] [x] [] [])=true:=by simp[bL,cz,bS,aE,au,aS,eP,eg,h]
end Go.Proofs
