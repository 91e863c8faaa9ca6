/- A part of the proof. -/
import Derived.Test.YtpnpbmbdkinajaaGreatDoorRunEG
import Derived.Test.YtpnpbmbdkinajaaGreatDoorScriptG
set_option linter.all false
set_option maxHeartbeats 0
set_option maxRecDepth 100000
open Go.IntKind Go.Proofs.Tryz
namespace Go.Proofs
open Go.cE
def A3(f:FuncId)(S:bM)(Y:Φ)(r:CV)(u:bM):Prop :=
 th f (mI (mC S) (bD (sR S.st)) (bD (fR S.fr))) (.ptr 1000000 0::Y) (.c r) (mI (mC u) (bD (sR u.st)) (bD (fR u.fr)))
def VZ{f:FuncId}{n:Nat}{P:lu}{K:L Item}{env:Env}{Y:Func}(hf:Tryz.prog.funcs[f]?=some Y){S:tab}{O:tad}{N:Ω}{l:Φ}(V:sZ Tryz.X S env Y.results.toList=some l)
  {v:CV}(U:close (Bh l)=some v){u:bM}{cells W J:Φ}(M:au 1000000 S=some cells)(A:cells=mC u 1000001 1000002)(F:au 1000001 S=some W)(Q:W=aq (sR u.st))(B:au 1000002 S=some J)(I:J=aq (fR u.fr)){r:CV}(T:v=r) :
  CI f n P (HR P (.c r) (mI (mC u) (bD (sR u.st)) (bD (fR u.fr)))) (.code .ret::K) env ⟨S,O,N⟩:=by
 subst A Q I T;refine AK.IS (.inl ⟨_,Z⟩) hX hf V [(1000000,1000000),(1000001,1000001),(1000002,1000002)] Z (.inr U) ⟨⟨_,_,Z,M,(Jo u).conv _ _ _ _ _ _ Z Z⟩,⟨_,_,Z,F,cO _⟩,⟨_,_,Z,B,cO _⟩,trivial⟩
def uMK{ops:tal}{o:Oper}{rest:L Oper}{env:Env}{y:L Fp}{Q:Env->St->L Fp->Prop}{x:tab}{z:tad}{m:Ω}(N:cZ ops.toList kn env o=some true){f:FuncId}{args:tam}{T:Array TypeId}(P:o.op = .call {callee := .value (.func f),args:=args,argTypes:=T})
  {S u:bM}{U:Φ}{r:CV}(j:A3 f S U r u){d:Nat}(A:o.dst=some d)
  {l:Φ}(O:ir (aJ Tryz.X env) args.toList=some l){C:Nat}{V:Φ}(W:l = .ptr C 0::V){Y F:Nat}{K E J:Φ}(i:au C x=some K)(M:K=mC S Y F)(b:au Y x=some E)(I:E=aq (sR S.st))(B:au F x=some J)(H:J=aq (fR S.fr))
  (q:∀z,fT ⟨λk=>au k [(1000000,C),(1000001,Y),(1000002,F)],λ_=>none⟩ z U V)(G:Go.cE.distinct [C,Y,F])
  {t:tab}(D:lK [C,Y,F] x=t)
  (k:mM ops rest ((d,.c r)::env) ⟨(C,mC u Y F)::(Y,aq (sR u.st))::(F,aq (fR u.fr))::t,z,C::Y::F::m⟩ (⟨[],[C,Y,F,C,Y,F,C,Y,F]⟩::y) Q):mM ops (o::rest) env ⟨x,z,m⟩ y Q:=by
 subst W;exact ag.agr kn N P j (Jo S) (Jo u) A O Z i M b I B H (λz=>⟨_,_,Z,⟨_,fo,Z⟩,q z⟩) G Z Z D k
def RL{ops:tal}{o:Oper}{rest:L Oper}{env:Env}{z:L Fp}{Q:Env->St->L Fp->Prop}{y:tab}{t:tad}{m:Ω}{f:FuncId}{args:tam}{T:Array TypeId}{S u:bM}{U:Φ}{r:CV}{d:Nat}{l:Φ}{C:Nat}{V:Φ}{Y F:Nat}{K E J:Φ}{x:tab}(k:mM ops rest ((d,.c r)::env) ⟨(C,mC u Y F)::(Y,aq (sR u.st))::(F,aq (fR u.fr))::x,t,C::Y::F::m⟩ (⟨[],[C,Y,F,C,Y,F,C,Y,F]⟩::z) Q)(N:cZ ops.toList kn env o=some true:=by exact rfl)(P:o.op = .call {callee := .value (.func f),args:=args,argTypes:=T}:=by exact rfl)(hq:A3 f S U r u:=by assumption)(A:o.dst=some d:=by exact rfl)(O:ir (aJ Tryz.X env) args.toList=some l:=by exact rfl)(W:l = .ptr C 0::V:=by exact rfl)(j:au C y=some K:=by exact rfl)(M:K=mC S Y F:=by exact rfl)(i:au Y y=some E:=by exact rfl)(I:E=aq (sR S.st):=by exact rfl)(B:au F y=some J:=by exact rfl)(H:J=aq (fR S.fr):=by exact rfl)(q:∀t,fT ⟨λk=>au k [(1000000,C),(1000001,Y),(1000002,F)],λ_=>none⟩ t U V:=by intro _;repeat' (first|exact rfl|refine J8 rfl ?_|refine J9 rfl ?_))(G:Go.cE.distinct [C,Y,F]:=by exact rfl)(D:lK [C,Y,F] y=x:=by exact rfl): mM ops (o::rest) env ⟨y,t,m⟩ z Q:=uMK N P hq A O W j M i I B H q G D k
def V0(f:iH)(t:List iH):eB (0+t.length*4+1) (aq (fR (f::t)))=some [.c (ah (f.pos:Nat)),.c (ah f.fin),.c (.sl 7 (aa f.aside))]:=ni _ 1 _ _ _ (Cj f t) rfl
def yz(f:iH)(t:List iH):eB (0+t.length*4+2) (aq (fR (f::t)))=some [.c (ah f.fin),.c (.sl 7 (aa f.aside))]:=ni _ 2 _ _ _ (Cj f t) rfl
def Jp(f:iH)(t:List iH):eB (0+t.length*4+3) (aq (fR (f::t)))=some [.c (.sl 7 (aa f.aside))]:=ni _ 3 _ _ _ (Cj f t) rfl
def V1(f:iH)(t:List iH):bQ (0+t.length*4+1) [.c (ah 0)] (aq (fR (f::t)))=some (aq (fR ({f with pos:=0}::t))):=IY f t 0
attribute [local irreducible] AK ag aZ bS cA de nQ
def V3(S:bM)(h:S.bC<=S.used):A3 97 S [] (ah 12) S:=by
 have D:decide (S.used>=S.bC):=ace h;refine cA.of func97 Z (λY w=>call97 Y w) (ahw Z) [(0,.ptr 1000000 0)] ⟨[(1000000,mC (S) 1000001 1000002),(1000001,aq (sR (S).st)),(1000002,aq (fR (S).fr))],[],[1000000,1000001,1000002]⟩ Z Z λV=>?_;have hf:=func97
 repeat' (first|refine pS ?_|refine zc ?_ ?_|(intro h;first|(cases h;done)|rw[h]|skip))
 exact ahd
def V4(S:bM)(h:S.used<S.bC)(V:VY S.bC)(U:0<=S.used):A3 97 S [] (ah 0) {S with used:=S.used+1}:=by
 have D:decide (S.used>=S.bC)=false:=acf ai;have q:i64.wrap (S.used+1)=S.used+1:=gW ai (by have:=V.2;omega);refine cA.of func97 Z (λY w=>call97 Y w) (ahw Z) [(0,.ptr 1000000 0)] ⟨[(1000000,mC (S) 1000001 1000002),(1000001,aq (sR (S).st)),(1000002,aq (fR (S).fr))],[],[1000000,1000001,1000002]⟩ Z Z λT=>?_;have hf:=func97
 repeat' (first|refine pS ?_|refine zc ?_ ?_|(intro h;first|(cases h;done)|rw[h]|skip))
 rw[q];exact ahd
def aaU(S:bM)(h:S.st=[]):A3 111 S [] (.eK [bz jl,.bool false]) S:=by
 obtain⟨a,b,c,d,st,C,g,u,m,K⟩:=S;simp only at h;subst h;have D:decide (i64.wrap (((([]:Ξ).length:Nat):Int)-1)<0):=by decide
 refine cA.of func111 Z (λY w=>call111 Y w) (ahw Z) [(0,.ptr 1000000 0)] ⟨[(1000000,mC (bM.mk a b c d [] C g u m K) 1000001 1000002),(1000001,aq (sR (bM.mk a b c d [] C g u m K).st)),(1000002,aq (fR (bM.mk a b c d [] C g u m K).fr))],[],[1000000,1000001,1000002]⟩ Z Z λV=>?_;have hf:=func111
 repeat' (first|refine pS ?_|refine zc ?_ ?_|(intro h;first|(cases h;done)|rw[h]|skip))
 exact ahd
def EZ(S:bM)(v:Vl)(t:Ξ)(h:S.st=v::t)(E:t.length<=1099511627776):A3 111 S [] (.eK [bz v,.bool true]) {S with st:=t}:=by
 obtain⟨a,b,c,d,st,C,g,u,m,K⟩:=S;simp only at h;subst h;have q:i64.wrap ((((v::t).length:Nat):Int)-1)=(t.length:Nat):=by rw[gW ek ek];simp only[aat];omega
 have D:decide (i64.wrap ((((v::t).length:Nat):Int)-1)<0)=false:=by rw[q];exact acf ai
 obtain⟨k,n,T,s,V,U,code⟩:=v;have Y:=Ou k n T s V U code t;refine cA.of func111 Z (λV w=>call111 V w) (ahw Z) [(0,.ptr 1000000 0)] ⟨[(1000000,mC (bM.mk a b c d (.mk k n T s V U code::t) C g u m K) 1000001 1000002),(1000001,aq (sR (bM.mk a b c d (.mk k n T s V U code::t) C g u m K).st)),(1000002,aq (fR (bM.mk a b c d (.mk k n T s V U code::t) C g u m K).fr))],[],[1000000,1000001,1000002]⟩ Z Z λQ=>?_;have hf:=func111
 repeat' (first|refine pS ?_|refine zc ?_ ?_|(intro h;first|(cases h;done)|rw[h]|skip)|refine ag.kZ hX kn Z Z Z Z Z Z Z Z Z t.length q (aid _) ?_|refine ag.dy hX kn Z Z Z Z Z Z Y Z ?_|refine ag.GQ hX kn Z Z Z Z Z Z Z Z Z Z Z Z t.length q (ajT _) ?_)
 refine AK.zU 1000001 (aq (sR t)) _ Z (Jq _ _) Z ?_;exact ahd
def XQ{X:Go.cE.Ctx}{env:Env}{y:Operand}{z:Int}{G:IntKind}{h:Nat}(u:aJ X env y=some (.c (.int G z)))(P:z=h):bound (aJ X env) (some y)=some (some h):=by subst P;simp only[bound,u,asNat]
def Oc(S:bM)(F:iH)(t:List iH)(h:S.fr=F::t)(C:F.fin=0)(E:t.length<=1099511627776):cM 95 S [.ptr 1000002 (0+t.length*4)] (ah 0) {S with fr:=t}:=by
 obtain⟨a,b,c,d,W,fr,g,u,m,K⟩:=S;obtain⟨code,Y,fin,P⟩:=F;simp only at h C;subst h C;have V:=yz ⟨code,Y,0,P⟩ t;have q:i64.wrap ((((iH.mk code Y 0 P::t).length:Nat):Int)-1)=(t.length:Nat):=by rw[gW ek ek];simp only[aat];omega
 refine mn func95 call95 λU hf=>?_
 repeat' ((fail_if_success (refine mX 28 ?_));first|refine pS ?_|refine zc ?_ ?_|(intro h;first|(cases h;done)|rw[h]|skip)|refine AK.skip ?_|refine AK.seq ?_|refine AK.block ?_|refine AK.exit Z ?_|refine ag.dy hX kn Z Z Z Z Z Z V Z ?_|refine ag.sliceB hX kn Z Z Z Z Z Z Z Z (l:=none) (h:=some t.length) Z (XQ Z q) (ajT _) (ahp _) ?_|(refine uA Z ?_ ?_<;>(try (show(_:Nat)*_<=_;dsimp only))))
 refine AK.zU 1000002 (cells:=aq (fR (⟨code,Y,0,P⟩::t))) (aq (fR t)) (aq [vJ ⟨code,Y,0,P⟩]) Z (nY _ _) Z ?_;exact dm
def UB(a b c d:Int)(Y:Ξ)(g u m:Int)(K:Vl)(code:Θ)(W:Nat)(P:Ξ)(t:List iH)(I:Y.length<=500000000)(T:P.length<=500000000)(E:t.length<=1099511627776):cM 95 ⟨a,b,c,d,Y,⟨code,W,1,P⟩::t,g,u,m,K⟩ [.ptr 1000002 (0+t.length*4)] (ah 0) ⟨a,b,c,d,P.reverse++Y,t,g,u,m,K⟩:=by
 have S:=yz ⟨code,W,1,P⟩ t;have B:=Jp ⟨code,W,1,P⟩ t;have q:i64.wrap (((((⟨code,W,1,P⟩:iH)::t).length:Nat):Int)-1)=(t.length:Nat):=by rw[gW ek ek];simp only[aat];omega
 have V:sR Y++aa P=sR (P.reverse++Y):=by rw[sR,sR,akS,ajI,mU]
 have U:((sR Y).length+(aa P).length)*112<=140737488355328:=by rw[kK,aE];omega
 refine mn func95 call95 λQ hf=>?_
 repeat' ((fail_if_success (refine mX 28 ?_));first|refine pS ?_|refine zc ?_ ?_|(intro h;first|(cases h;done)|rw[h]|skip)|refine AK.skip ?_|refine AK.seq ?_|refine AK.block ?_|refine AK.exit Z ?_|refine ag.dy hX kn Z Z Z Z Z Z S Z ?_|refine ag.dy hX kn Z Z Z Z Z Z B Z ?_|refine ag.od hX kn Z Z Z Z Z Z Z Z Z Z Z Z Z Z Z (sR Y) [] (ahq _).symm (kK _).symm (xZ _) Z Z Z Z Z Z Z U V (m:=(P.reverse++Y).length) (kK _) Z ?_|refine ag.sliceB hX kn Z Z Z Z Z Z Z Z (l:=none) (h:=some t.length) Z (XQ Z q) (ajT _) (ahp _) ?_|(refine uA Z ?_ ?_<;>(try (show(_:Nat)*_<=_;dsimp only))))
 refine AK.zU 1000002 (cells:=aq (fR (⟨code,W,1,P⟩::t))) (aq (fR t)) (aq [vJ ⟨code,W,1,P⟩]) Z (nY _ _) Z ?_;exact dm
def Od(a b c d:Int)(W:Ξ)(g u m:Int)(K:Vl)(code:Θ)(Y:Nat)(P:Ξ)(t:List iH)(E:t.length<=1099511627776):cM 95 ⟨a,b,c,d,[],⟨code,Y,2,P⟩::t,g,u,m,K⟩ [.ptr 1000002 (0+t.length*4)] (ah 14) ⟨a,b,c,d,[],⟨code,Y,2,P⟩::t,g,u,m,K⟩:=by
 have V:=yz ⟨code,Y,2,P⟩ t;have B:=Jp ⟨code,Y,2,P⟩ t;have q:i64.wrap (((((⟨code,Y,2,P⟩:iH)::t).length:Nat):Int)-1)=(t.length:Nat):=by rw[gW ek ek];simp only[aat];omega
 refine mn func95 call95 λU hf=>?_
 repeat' (first|refine pS ?_|refine zc ?_ ?_|(intro h;first|(cases h;done)|rw[h]|skip)|refine AK.skip ?_|refine AK.seq ?_|refine AK.block ?_|refine AK.exit Z ?_|refine ag.dy hX kn Z Z Z Z Z Z V Z ?_|(refine uA Z ?_ ?_<;>(try (show(_:Nat)*_<=_;dsimp only))))
 all_goals rfl
def Oe(a b c d:Int)(v:Vl)(Y:Ξ)(g u m:Int)(K:Vl)(code:Θ)(W:Nat)(t:List iH)(N:Y.length<=500000000)(E:t.length<=1099511627776):cM 95 ⟨a,b,c,d,v::Y,⟨code,W,2,[]⟩::t,g,u,m,K⟩ [.ptr 1000002 (0+t.length*4)] (ah 0) ⟨a,b,c,d,[v],t,g,u,m,K⟩:=by
 have J:=yz ⟨code,W,2,[]⟩ t;have B:=Jp ⟨code,W,2,[]⟩ t;have q:i64.wrap (((((⟨code,W,2,[]⟩:iH)::t).length:Nat):Int)-1)=(t.length:Nat):=by rw[gW ek ek];simp only[aat];omega
 have V:i64.wrap ((((Y.length+1:Nat)):Int)-1)=(Y.length:Nat):=by rw[gW ai ai];omega
 have M:((((Y.length+1:Nat)):Int)==0)=false:=beq_eq_false_iff_ne.2 ai;obtain⟨U,T,S,P,I,H,Q⟩:=v;have O:=Ou U T S P I H Q Y;refine mn func95 call95 λF hf=>?_
 repeat' ((fail_if_success (refine mX 28 ?_));first|refine pS ?_|refine zc ?_ ?_|(intro h;first|(cases h;done)|rw[h]|skip)|refine AK.skip ?_|refine AK.seq ?_|refine AK.block ?_|refine AK.exit rfl ?_|refine ag.dy hX kn rfl rfl rfl rfl rfl rfl J rfl ?_|refine ag.kZ hX kn rfl rfl rfl rfl rfl rfl rfl rfl rfl Y.length V (aid _) ?_|refine ag.dy hX kn rfl rfl rfl rfl rfl rfl O rfl ?_|refine ag.dy hX kn rfl rfl rfl rfl rfl rfl B rfl ?_|refine ag.B5 kn rfl rfl (lS 7) rfl rfl (λ_=>⟨_,_,rfl,.inr rfl,rfl⟩) rfl rfl ?_|refine ag.xg hX kn rfl rfl rfl rfl rfl rfl rfl rfl rfl rfl rfl rfl rfl rfl rfl rfl rfl rfl (λh=>by cases h) rfl rfl rfl (show(0+1)*112<=140737488355328 by decide) rfl (m:=1) rfl ?_|refine ag.sliceB hX kn rfl rfl rfl rfl rfl rfl rfl rfl (l:=none) (h:=some t.length) rfl (XQ rfl q) (ajT _) (ahp _) ?_|(refine uA rfl ?_ ?_<;>(try (show(_:Nat)*_<=_;dsimp only))))
 refine AK.zU 1000002 (cells:=aq (fR (⟨code,W,2,[]⟩::t))) (aq (fR t)) (aq [vJ ⟨code,W,2,[]⟩]) Z (nY _ _) Z ?_;exact dm
def Of(a b c d:Int)(v:Vl)(W:Ξ)(g u m:Int)(K:Vl)(code:Θ)(V:Nat)(x:Vl)(q:Ξ)(t:List iH)(E:W.length<=500000000)(C:q.length<=500000000)(A:t.length<=1099511627776):cM 95 ⟨a,b,c,d,v::W,⟨code,V,2,(x::q)⟩::t,g,u,m,K⟩ [.ptr 1000002 (0+t.length*4)] (ah 0) ⟨a,b,c,d,v::(x::q).reverse,t,g,u,m,K⟩:=by
 have F:=yz ⟨code,V,2,(x::q)⟩ t;have O:=Jp ⟨code,V,2,(x::q)⟩ t;have D:i64.wrap (((((⟨code,V,2,(x::q)⟩:iH)::t).length:Nat):Int)-1)=(t.length:Nat):=by rw[gW ek ek];simp only[aat];omega
 have N:i64.wrap ((((W.length+1:Nat)):Int)-1)=(W.length:Nat):=by rw[gW ai ai];omega
 have p:((((W.length+1:Nat)):Int)==0)=false:=beq_eq_false_iff_ne.2 ai;obtain⟨U,T,S,P,Y,H,B⟩:=v;have M:=Ou U T S P Y H B W;have J:=gH x q ai;have G:aa (x::q)++aa [.mk U T S P Y H B]=sR (.mk U T S P Y H B::(x::q).reverse):=by rw[sR,akt,ajI,mU]
 have Q:(bD (aa (x::q))).length=(q.length+1)*7:=by rw[dL (rows:=aa (x::q)) (s:=7) (iQ _),aE];rfl
 have I:((aa (x::q)).length+1)*112<=140737488355328:=by rw[aE,aat];omega
 refine mn func95 call95 λz hf=>?_
 repeat' ((fail_if_success (refine mX 28 ?_));first|refine pS ?_|refine zc ?_ ?_|(intro h;first|(cases h;done)|rw[h]|skip)|refine AK.skip ?_|refine AK.seq ?_|refine AK.block ?_|refine AK.exit Z ?_|refine ag.dy hX kn Z Z Z Z Z Z F Z ?_|refine ag.kZ hX kn Z Z Z Z Z Z Z Z Z W.length N (aid _) ?_|refine ag.dy hX kn Z Z Z Z Z Z M Z ?_|refine ag.dy hX kn Z Z Z Z Z Z O Z ?_|refine ag.nJ kn Z Z Z Z Z Z J Z ?_|refine ag.od hX kn Z Z Z Z Z Z Z Z Z Z Z Z Z Z Z (aa (x::q)) [] (ahq _).symm (aE (x::q)).symm Q Z Z Z Z Z Z Z I G (m:=(Vl.mk U T S P Y H B::(x::q).reverse).length) (kK _) Z ?_|refine ag.sliceB hX kn Z Z Z Z Z Z Z Z (l:=none) (h:=some t.length) Z (XQ Z D) (ajT _) (ahp _) ?_|(refine uA Z ?_ ?_<;>(try (show(_:Nat)*_<=_;dsimp only))))
 refine AK.zU 1000002 (cells:=aq (fR (⟨code,V,2,(x::q)⟩::t))) (aq (fR t)) (aq [vJ ⟨code,V,2,(x::q)⟩]) Z (nY _ _) Z ?_;exact dm
def Og(a b c d:Int)(W:Ξ)(g u m:Int)(K:Vl)(code:Θ)(Y:Nat)(t:List iH)(E:t.length<=1099511627776):cM 95 ⟨a,b,c,d,W,⟨code,Y,3,[]⟩::t,g,u,m,K⟩ [.ptr 1000002 (0+t.length*4)] (ah 0) ⟨a,b,c,d,W,t,g,u,m,K⟩:=by
 have V:=yz ⟨code,Y,3,[]⟩ t;have B:=Jp ⟨code,Y,3,[]⟩ t;have q:i64.wrap (((((⟨code,Y,3,[]⟩:iH)::t).length:Nat):Int)-1)=(t.length:Nat):=by rw[gW ek ek];simp only[aat];omega
 refine mn func95 call95 λU hf=>?_
 repeat' ((fail_if_success (refine mX 28 ?_));first|refine pS ?_|refine zc ?_ ?_|(intro h;first|(cases h;done)|rw[h]|skip)|refine AK.skip ?_|refine AK.seq ?_|refine AK.block ?_|refine AK.exit Z ?_|refine ag.dy hX kn Z Z Z Z Z Z V Z ?_|refine ag.dy hX kn Z Z Z Z Z Z B Z ?_|refine ag.sliceB hX kn Z Z Z Z Z Z Z Z (l:=none) (h:=some t.length) Z (XQ Z q) (ajT _) (ahp _) ?_|(refine uA Z ?_ ?_<;>(try (show(_:Nat)*_<=_;dsimp only))))
 refine AK.zU 1000002 (cells:=aq (fR (⟨code,Y,3,[]⟩::t))) (aq (fR t)) (aq [vJ ⟨code,Y,3,[]⟩]) Z (nY _ _) Z ?_;exact dm
def Oh(a b c d:Int)(W:Ξ)(g u m:Int)(K:Vl)(code:Θ)(Y:Nat)(x:Vl)(q:Ξ)(t:List iH)(N:g<=u)(E:t.length<=1099511627776):cM 95 ⟨a,b,c,d,W,⟨code,Y,3,x::q⟩::t,g,u,m,K⟩ [.ptr 1000002 (0+t.length*4)] (ah 12) ⟨a,b,c,d,W,⟨code,Y,3,x::q⟩::t,g,u,m,K⟩:=by
 have U:=yz ⟨code,Y,3,x::q⟩ t;have B:=Jp ⟨code,Y,3,x::q⟩ t;have D:i64.wrap (((((⟨code,Y,3,x::q⟩:iH)::t).length:Nat):Int)-1)=(t.length:Nat):=by rw[gW ek ek];simp only[aat];omega
 have M:=V3 ⟨a,b,c,d,W,⟨code,Y,3,x::q⟩::t,g,u,m,K⟩ N;have V:decide ((((aa (x::q)).length:Nat):Int)>0):=ace (by rw[aE,aat];omega);refine mn func95 call95 λT hf=>?_
 repeat' (first|refine pS ?_|refine zc ?_ ?_|(intro h;first|(cases h;done)|rw[h]|skip)|refine AK.skip ?_|refine AK.seq ?_|refine AK.block ?_|refine AK.exit Z ?_|refine ag.dy hX kn Z Z Z Z Z Z U Z ?_|refine ag.dy hX kn Z Z Z Z Z Z B Z ?_|refine RL ?_ (hq:=M)|(refine uA Z ?_ ?_<;>(try (show(_:Nat)*_<=_;dsimp only))))
 all_goals rfl
def Oi(a b c d:Int)(Y:Ξ)(g u m:Int)(K:Vl)(code:Θ)(W:Nat)(x:Vl)(q:Ξ)(t:List iH)(N:u<g)(M:VY g)(p:0<=u)(D:Y.length<=500000000)(C:t.length<=1099511627776):cM 95 ⟨a,b,c,d,Y,⟨code,W,3,x::q⟩::t,g,u,m,K⟩ [.ptr 1000002 (0+t.length*4)] (ah 0) ⟨a,b,c,d,x::Y,⟨code,0,3,q⟩::t,g,u+1,m,K⟩:=by
 have F:=yz ⟨code,W,3,x::q⟩ t;have J:=Jp ⟨code,W,3,x::q⟩ t;have A:i64.wrap (((((⟨code,W,3,x::q⟩:iH)::t).length:Nat):Int)-1)=(t.length:Nat):=by rw[gW ek ek];simp only[aat];omega
 have G:=V4 ⟨a,b,c,d,Y,⟨code,W,3,x::q⟩::t,g,u,m,K⟩ N M p;have z:decide ((((aa (x::q)).length:Nat):Int)>0):=ace (by rw[aE,aat];omega);obtain⟨S,Q,P,H,I,O,B⟩:=x;have V:=T4 S Q P H I O B Y;have E:((sR Y).length+1)*112<=140737488355328:=by rw[kK];omega
 have U:=aan ⟨code,W,3,.mk S Q P H I O B::q⟩ t q;have T:=V1 ⟨code,W,3,q⟩ t;refine mn func95 call95 λy hf=>?_
 repeat' (first|refine pS ?_|refine zc ?_ ?_|(intro h;first|(cases h;done)|rw[h]|skip)|refine AK.skip ?_|refine AK.seq ?_|refine AK.block ?_|refine AK.exit Z ?_|refine ag.dy hX kn Z Z Z Z Z Z F Z ?_|refine ag.dy hX kn Z Z Z Z Z Z J Z ?_|refine RL ?_ (hq:=G)|refine uI Z (0) Z (Z) Z ?_|refine ag.od hX kn Z Z Z Z Z Z Z Z Z Z Z Z Z Z Z (sR Y) [] (ahq _).symm (kK _).symm (xZ _) Z Z Z Z Z Z Z E Z (m:=Y.length+1) (by rw[acg,kK];rfl) Z ?_|refine ag.kZ hX kn Z Z Z Z Z Z Z Z Z Y.length Z (aid _) ?_|refine ag.store hX kn Z Z Z Z Z Z Z Z Z (V _ Z) Z ?_|refine ag.sliceFrom hX kn Z Z Z Z Z Z Z Z (m:=1) Z (ajz (ahp _)) ?_|refine ag.store hX kn Z Z Z Z Z Z Z Z Z U Z ?_|refine ag.store hX kn Z Z Z Z Z Z Z Z Z T Z ?_|(refine uA Z ?_ ?_<;>(try (show(_:Nat)*_<=_;dsimp only))))
 all_goals rfl
def Oj(a b c d:Int)(W:Ξ)(g u m:Int)(K:Vl)(code:Θ)(Y:Nat)(P:Ξ)(t:List iH)(I:W.length<=500000000)(E:t.length<=1099511627776):cM 95 ⟨a,b,c,d,[],⟨code,Y,4,P⟩::t,g,u,m,K⟩ [.ptr 1000002 (0+t.length*4)] (ah 14) ⟨a,b,c,d,[],⟨code,Y,4,P⟩::t,g,u,m,K⟩:=by
 have V:=yz ⟨code,Y,4,P⟩ t;have q:i64.wrap (((((⟨code,Y,4,P⟩:iH)::t).length:Nat):Int)-1)=(t.length:Nat):=by rw[gW ek ek];simp only[aat];omega
 have M:=aaU ⟨a,b,c,d,[],⟨code,Y,4,P⟩::t,g,u,m,K⟩ Z;refine mn func95 call95 λU hf=>?_
 repeat' (first|refine pS ?_|refine zc ?_ ?_|(intro h;first|(cases h;done)|rw[h]|skip)|refine AK.skip ?_|refine AK.seq ?_|refine AK.block ?_|refine AK.exit Z ?_|refine ag.dy hX kn Z Z Z Z Z Z V Z ?_|refine RL ?_ (hq:=M)|(refine uA Z ?_ ?_<;>(try (show(_:Nat)*_<=_;dsimp only))))
 all_goals rfl
def Om(a b c d:Int)(T U S:Int)(H:Δ)(Y:Ξ)(Q:Γ)(B:Θ)(I:¬U=1)(V:Ξ)(g u m:Int)(K:Vl)(code:Θ)(W:Nat)(P:Ξ)(t:List iH)(O:V.length<=500000000)(E:t.length<=1099511627776):cM 95 ⟨a,b,c,d,.mk T U S H Y Q B::V,⟨code,W,4,P⟩::t,g,u,m,K⟩ [.ptr 1000002 (0+t.length*4)] (ah 0) ⟨a,b,c,d,V,t,g,u,m,K⟩:=by
 have N:=yz ⟨code,W,4,P⟩ t;have q:i64.wrap (((((⟨code,W,4,P⟩:iH)::t).length:Nat):Int)-1)=(t.length:Nat):=by rw[gW ek ek];simp only[aat];omega
 have M:=EZ ⟨a,b,c,d,.mk T U S H Y Q B::V,⟨code,W,4,P⟩::t,g,u,m,K⟩ (.mk T U S H Y Q B) V Z ai;have D:(U==1)=false:=beq_eq_false_iff_ne.2 I;refine mn func95 call95 λJ hf=>?_
 repeat' ((fail_if_success (refine mX 28 ?_));first|refine pS ?_|refine zc ?_ ?_|(intro h;first|(cases h;done)|rw[h]|skip)|refine AK.skip ?_|refine AK.seq ?_|refine AK.block ?_|refine AK.exit Z ?_|refine ag.dy hX kn Z Z Z Z Z Z N Z ?_|refine RL ?_ (hq:=M)|refine ag.sliceB hX kn Z Z Z Z Z Z Z Z (l:=none) (h:=some t.length) Z (XQ Z q) (ajT _) (ahp _) ?_|(refine uA Z ?_ ?_<;>(try (show(_:Nat)*_<=_;dsimp only))))
 refine AK.zU 1000002 (cells:=aq (fR (⟨code,W,4,P⟩::t))) (aq (fR t)) (aq [vJ ⟨code,W,4,P⟩]) Z (nY _ _) Z ?_;exact dm
def Ok(a b c d:Int)(U T:Int)(H:Δ)(Y:Ξ)(S:Γ)(B:Θ)(W:Ξ)(g u m:Int)(K:Vl)(code:Θ)(V:Nat)(P:Ξ)(t:List iH)(N:g<=u)(I:W.length<=500000000)(E:t.length<=1099511627776):cM 95 ⟨a,b,c,d,.mk U 1 T H Y S B::W,⟨code,V,4,P⟩::t,g,u,m,K⟩ [.ptr 1000002 (0+t.length*4)] (ah 12) ⟨a,b,c,d,W,⟨code,V,4,P⟩::t,g,u,m,K⟩:=by
 have Q:=yz ⟨code,V,4,P⟩ t;have q:i64.wrap (((((⟨code,V,4,P⟩:iH)::t).length:Nat):Int)-1)=(t.length:Nat):=by rw[gW ek ek];simp only[aat];omega
 have M:=EZ ⟨a,b,c,d,.mk U 1 T H Y S B::W,⟨code,V,4,P⟩::t,g,u,m,K⟩ (.mk U 1 T H Y S B) W Z ai;have hq:=V3 ⟨a,b,c,d,W,⟨code,V,4,P⟩::t,g,u,m,K⟩ N;refine mn func95 call95 λO hf=>?_
 repeat' (first|refine pS ?_|refine zc ?_ ?_|(intro h;first|(cases h;done)|rw[h]|skip)|refine AK.skip ?_|refine AK.seq ?_|refine AK.block ?_|refine AK.exit Z ?_|refine ag.dy hX kn Z Z Z Z Z Z Q Z ?_|refine RL ?_ (hq:=M)|refine RL ?_ (hq:=hq)|(refine uA Z ?_ ?_<;>(try (show(_:Nat)*_<=_;dsimp only))))
 all_goals rfl
def Ol(a b c d:Int)(U T:Int)(H:Δ)(Y:Ξ)(S:Γ)(B:Θ)(W:Ξ)(g u m:Int)(K:Vl)(code:Θ)(V:Nat)(P:Ξ)(t:List iH)(N:u<g)(O:VY g)(p:0<=u)(I:W.length<=500000000)(E:t.length<=1099511627776):cM 95 ⟨a,b,c,d,.mk U 1 T H Y S B::W,⟨code,V,4,P⟩::t,g,u,m,K⟩ [.ptr 1000002 (0+t.length*4)] (ah 0) ⟨a,b,c,d,W,⟨code,0,4,P⟩::t,g,u+1,m,K⟩:=by
 have J:=yz ⟨code,V,4,P⟩ t;have q:i64.wrap (((((⟨code,V,4,P⟩:iH)::t).length:Nat):Int)-1)=(t.length:Nat):=by rw[gW ek ek];simp only[aat];omega
 have M:=EZ ⟨a,b,c,d,.mk U 1 T H Y S B::W,⟨code,V,4,P⟩::t,g,u,m,K⟩ (.mk U 1 T H Y S B) W Z ai;have hq:=V4 ⟨a,b,c,d,W,⟨code,V,4,P⟩::t,g,u,m,K⟩ N O p;have Q:=V1 ⟨code,V,4,P⟩ t;refine mn func95 call95 λF hf=>?_
 repeat' (first|refine pS ?_|refine zc ?_ ?_|(intro h;first|(cases h;done)|rw[h]|skip)|refine AK.skip ?_|refine AK.seq ?_|refine AK.block ?_|refine AK.exit Z ?_|refine ag.dy hX kn Z Z Z Z Z Z J Z ?_|refine RL ?_ (hq:=M)|refine RL ?_ (hq:=hq)|refine ag.store hX kn Z Z Z Z Z Z Z Z Z Q Z ?_|(refine uA Z ?_ ?_<;>(try (show(_:Nat)*_<=_;dsimp only))))
 all_goals rfl
end Go.Proofs
namespace Go.Proofs
open Go.cE
abbrev gU(S:bM)(F:iH)(t:List iH):bM:={S with fr:={F with pos:=F.pos+1}::t}
inductive oR:Nat->bM->MR->Prop
 |done {k:Nat} {S:bM} (h:S.fr=[]):oR (k+1) S (0,S)
 |fin {k:Nat} {S S':bM} {F:iH} {t:List iH} {e:Int} {r:MR} (h:S.fr=F::t) (hp:F.pos=F.code.length) (ht:t.length<=1000000000) (hc:cM 95 S [.ptr 1000002 (0+t.length*4)] (ah e) S') (he:e≠0->r=(e,S')) (hk:e=0->oR k S' r):oR (k+1) S r
 |seq {k:Nat} {S:bM} {F:iH} {t:List iH} {N P:Int} {s:List UInt8} {args:List Nd} {r:MR} (h:S.fr=F::t) (hp:F.code[F.pos]?=some (.mk 3 N P s args)) (ht:t.length<=1000000000) (hl:F.code.length<=8589934593) (hk:oR k (dZ (gU S F t) args 0 []) r):oR (k+1) S r
 |aiT {k:Nat} {S:bM} {F:iH} {t:List iH} {N P:Int} {s:List UInt8} {args:List Nd} (h:S.fr=F::t) (hp:F.code[F.pos]?=some (.mk 2 N P s args)) (ht:t.length<=1000000000) (hl:F.code.length<=8589934593) (hg:S.bC<=S.used):oR (k+1) S (12,gU S F t)
 |step {k:Nat} {S S':bM} {F:iH} {t:List iH} {N P:Int} {s:List UInt8} {args:List Nd} {e:Int} {r:MR} (h:S.fr=F::t) (hp:F.code[F.pos]?=some (.mk 2 N P s args)) (ht:t.length<=1000000000) (hl:F.code.length<=8589934593) (hg:S.used<S.bC) (hi:VY S.bC) (hu:0<=S.used)
   (hc:cM 98 {gU S F t with used:=S.used+1} [.c (aV (.mk 2 N P s args))] (ah e) S') (he:e≠0->r=(e,S')) (hk:e=0->oR k S' r):oR (k+1) S r
attribute [local irreducible] AK ag aZ bS cA de
def SS(k S r)(q:oR k S r):cM 83 S [] (ah r.1) r.2:=by
 refine mn func83 call83 λj hf=>?_;refine dnm ?_;refine AK.gK [(1000000,1000000),(3001,1000001),(3002,1000002)] [] (env':=[(0,.ptr 1000000 0)]) (bs':=[(1000000,mC S 3001 3002),(3001,aq (sR S.st)),(3002,aq (fR S.fr))]) (ts':=[]) (us':=[1000000,3001,3002]) ce (cvB Z Z Z Z Z Z Z Z Z) Z ?_;refine AK.dg (α:=Nat×bM) (λz=>oR z.1 z.2 r) (λz=>z.1) (λ_=>[(0,.ptr 1000000 0)]) (λz=>[(1000000,mC z.2 3001 3002),(3001,aq (sR z.2.st)),(3002,aq (fR z.2.fr))]) (λ_=>[]) [1000000,3001,3002] (k,S)
  q ⟨.inl Z,trivial⟩ ⟨Z,Z,Z,trivial⟩ trivial Z (agD S Z Z Z) Z ?_
 rintro⟨A,T⟩ D ih;simp only at D;clear q;cases D with
 |done h =>
  obtain⟨a,b,c,d,V,B,g,u,m,K⟩:=T;simp only at h;subst h;clear ih;exact dm
 |@fin k1 _ x F t e _ h hp ht hc he y =>
  obtain⟨a,b,c,d,V,B,g,u,m,K⟩:=T;obtain⟨code,W,fin,Y⟩:=F;simp only at *;subst h;have C:=Cj ⟨code,W,fin,Y⟩ t;have o:=V0 ⟨code,W,fin,Y⟩ t;have q:i64.wrap (((((⟨code,W,fin,Y⟩:iH)::t).length:Nat):Int)-1)=(t.length:Nat):=by rw[gW ek ek];simp only[aat];omega
  have M:decide (((((⟨code,W,fin,Y⟩:iH)::t).length:Nat):Int)>0):=ace ek;subst hp;have J:=bq code;have G:((code.length:Int)==(((aD code).length:Nat):Int)):=beq_iff_eq.2 ai;by_cases H:e=0
  ·have I:(e != 0)=false:=(by simpa using H);replace y:=y H;clear he
   repeat' (first|refine pS ?_|refine zc ?_ ?_|(intro h;first|(cases h;done)|rw[h]|skip)|refine AK.skip ?_|refine AK.seq ?_|refine AK.block ?_|refine AK.exit Z ?_|refine ag.dy hX kn Z Z Z Z Z Z C Z ?_|refine ag.dy hX kn Z Z Z Z Z Z o Z ?_|refine ag.kZ hX kn Z Z Z Z Z Z Z Z Z t.length q (aid _) ?_|refine xY ?_ (hq:=hc))
   refine AK.gK [(1000000,1000000),(3001,100037),(3002,200037)] [] (env':=[(0,.ptr 1000000 0)]) (bs':=[(1000000,mC x 3001 3002),(3001,aq (sR (x).st)),(3002,aq (fR (x).fr))]) (ts':=[]) (us':=[1000000,3001,3002]) ce (cvB Z Z Z Z Z Z Z Z Z) Z ?_;exact ih (_,x) (y) (aid _)
  have I:(e != 0):=by simpa using H
  obtain rfl:=he H;clear ih he y
  repeat' (first|refine pS ?_|refine zc ?_ ?_|(intro h;first|(cases h;done)|rw[h]|skip)|refine AK.skip ?_|refine AK.seq ?_|refine AK.block ?_|refine AK.exit Z ?_|refine ag.dy hX kn Z Z Z Z Z Z C Z ?_|refine ag.dy hX kn Z Z Z Z Z Z o Z ?_|refine ag.kZ hX kn Z Z Z Z Z Z Z Z Z t.length q (aid _) ?_|refine xY ?_ (hq:=hc))
  all_goals rfl
 |@seq k1 _ F t N P s args _ h hp ht hl y =>
  obtain⟨a,b,c,d,V,B,g,u,m,K⟩:=T;obtain⟨code,W,fin,Y⟩:=F;simp only at *;subst h;have C:=Cj ⟨code,W,fin,Y⟩ t;have o:=V0 ⟨code,W,fin,Y⟩ t;have q:i64.wrap (((((⟨code,W,fin,Y⟩:iH)::t).length:Nat):Int)-1)=(t.length:Nat):=by rw[gW ek ek];simp only[aat];omega
  have M:decide (((((⟨code,W,fin,Y⟩:iH)::t).length:Nat):Int)>0):=ace ek;have O:=(List.getElem?_eq_some_iff.1 hp).1;have J:=bq code;have G:((W:Int)==(((aD code).length:Nat):Int))=false:=beq_eq_false_iff_ne.2 ai;have Q:=ff hp;have hq:bQ (0+t.length*4+1) [.c (ah (i64.wrap ((W:Int)+1)))] (aq (fR (⟨code,W,fin,Y⟩::t)))=some (aq (fR (⟨code,W+1,fin,Y⟩::t))):=by rw[gW ai ai];exact IY ⟨code,W,fin,Y⟩ t (W+1)
  have E:=jj ⟨a,b,c,d,V,⟨code,W+1,fin,Y⟩::t,g,u,m,K⟩ args 0 ek
  repeat' (first|refine pS ?_|refine zc ?_ ?_|(intro h;first|(cases h;done)|rw[h]|skip)|refine AK.skip ?_|refine AK.seq ?_|refine AK.block ?_|refine AK.exit Z ?_|refine ag.dy hX kn Z Z Z Z Z Z C Z ?_|refine ag.dy hX kn Z Z Z Z Z Z o Z ?_|refine ag.kZ hX kn Z Z Z Z Z Z Z Z Z t.length q (aid _) ?_|refine uI Z W Z Q Z ?_|refine ag.store hX kn Z Z Z Z Z Z Z Z Z hq Z ?_|refine xY ?_ (hq:=E))
  refine AK.gK [(1000000,1000000),(3001,100064),(3002,200064)] [] (env':=[(0,.ptr 1000000 0)]) (bs':=[(1000000,mC (dZ ⟨a,b,c,d,V,⟨code,W+1,fin,Y⟩::t,g,u,m,K⟩ args 0 []) 3001 3002),(3001,aq (sR ((dZ ⟨a,b,c,d,V,⟨code,W+1,fin,Y⟩::t,g,u,m,K⟩ args 0 [])).st)),(3002,aq (fR ((dZ ⟨a,b,c,d,V,⟨code,W+1,fin,Y⟩::t,g,u,m,K⟩ args 0 [])).fr))]) (ts':=[]) (us':=[1000000,3001,3002]) ce (cvB Z Z Z Z Z Z Z Z Z) Z ?_;exact ih (_,(dZ ⟨a,b,c,d,V,⟨code,W+1,fin,Y⟩::t,g,u,m,K⟩ args 0 [])) (y) (aid _)
 |@aiT k1 _ F t N P s args h hp ht hl hg =>
  obtain⟨a,b,c,d,V,B,g,u,m,K⟩:=T;obtain⟨code,W,fin,Y⟩:=F;simp only at *;subst h;have C:=Cj ⟨code,W,fin,Y⟩ t;have o:=V0 ⟨code,W,fin,Y⟩ t;have q:i64.wrap (((((⟨code,W,fin,Y⟩:iH)::t).length:Nat):Int)-1)=(t.length:Nat):=by rw[gW ek ek];simp only[aat];omega
  have M:decide (((((⟨code,W,fin,Y⟩:iH)::t).length:Nat):Int)>0):=ace ek;have O:=(List.getElem?_eq_some_iff.1 hp).1;have J:=bq code;have G:((W:Int)==(((aD code).length:Nat):Int))=false:=beq_eq_false_iff_ne.2 ai;have Q:=ff hp;have hq:bQ (0+t.length*4+1) [.c (ah (i64.wrap ((W:Int)+1)))] (aq (fR (⟨code,W,fin,Y⟩::t)))=some (aq (fR (⟨code,W+1,fin,Y⟩::t))):=by rw[gW ai ai];exact IY ⟨code,W,fin,Y⟩ t (W+1)
  have U:=agE ⟨a,b,c,d,V,⟨code,W+1,fin,Y⟩::t,g,u,m,K⟩ hg;clear ih
  repeat' (first|refine pS ?_|refine zc ?_ ?_|(intro h;first|(cases h;done)|rw[h]|skip)|refine AK.skip ?_|refine AK.seq ?_|refine AK.block ?_|refine AK.exit Z ?_|refine ag.dy hX kn Z Z Z Z Z Z C Z ?_|refine ag.dy hX kn Z Z Z Z Z Z o Z ?_|refine ag.kZ hX kn Z Z Z Z Z Z Z Z Z t.length q (aid _) ?_|refine uI Z W Z Q Z ?_|refine ag.store hX kn Z Z Z Z Z Z Z Z Z hq Z ?_|refine xY ?_ (hq:=U))
  all_goals rfl
 |@step k1 _ x F t N P s args e _ h hp ht hl hg hi hu hc he y =>
  obtain⟨a,b,c,d,V,B,g,u,m,K⟩:=T;obtain⟨code,W,fin,Y⟩:=F;simp only at *;subst h;have C:=Cj ⟨code,W,fin,Y⟩ t;have o:=V0 ⟨code,W,fin,Y⟩ t;have q:i64.wrap (((((⟨code,W,fin,Y⟩:iH)::t).length:Nat):Int)-1)=(t.length:Nat):=by rw[gW ek ek];simp only[aat];omega
  have M:decide (((((⟨code,W,fin,Y⟩:iH)::t).length:Nat):Int)>0):=ace ek;have O:=(List.getElem?_eq_some_iff.1 hp).1;have J:=bq code;have G:((W:Int)==(((aD code).length:Nat):Int))=false:=beq_eq_false_iff_ne.2 ai;have Q:=ff hp;have hq:bQ (0+t.length*4+1) [.c (ah (i64.wrap ((W:Int)+1)))] (aq (fR (⟨code,W,fin,Y⟩::t)))=some (aq (fR (⟨code,W+1,fin,Y⟩::t))):=by rw[gW ai ai];exact IY ⟨code,W,fin,Y⟩ t (W+1)
  have U:=agF ⟨a,b,c,d,V,⟨code,W+1,fin,Y⟩::t,g,u,m,K⟩ hg hi hu;by_cases H:e=0
  ·have I:(e != 0)=false:=(by simpa using H);replace y:=y H;clear he
   repeat' (first|refine pS ?_|refine zc ?_ ?_|(intro h;first|(cases h;done)|rw[h]|skip)|refine AK.skip ?_|refine AK.seq ?_|refine AK.block ?_|refine AK.exit Z ?_|refine ag.dy hX kn Z Z Z Z Z Z C Z ?_|refine ag.dy hX kn Z Z Z Z Z Z o Z ?_|refine ag.kZ hX kn Z Z Z Z Z Z Z Z Z t.length q (aid _) ?_|refine uI Z W Z Q Z ?_|refine ag.store hX kn Z Z Z Z Z Z Z Z Z hq Z ?_|refine xY ?_ (hq:=U)|refine xY ?_ (hq:=hc))
   refine AK.gK [(1000000,1000000),(3001,100075),(3002,200075)] [] (env':=[(0,.ptr 1000000 0)]) (bs':=[(1000000,mC x 3001 3002),(3001,aq (sR (x).st)),(3002,aq (fR (x).fr))]) (ts':=[]) (us':=[1000000,3001,3002]) ce (cvB Z Z Z Z Z Z Z Z Z) Z ?_;exact ih (_,x) (y) (aid _)
  have I:(e != 0):=by simpa using H
  obtain rfl:=he H;clear ih he y
  repeat' (first|refine pS ?_|refine zc ?_ ?_|(intro h;first|(cases h;done)|rw[h]|skip)|refine AK.skip ?_|refine AK.seq ?_|refine AK.block ?_|refine AK.exit Z ?_|refine ag.dy hX kn Z Z Z Z Z Z C Z ?_|refine ag.dy hX kn Z Z Z Z Z Z o Z ?_|refine ag.kZ hX kn Z Z Z Z Z Z Z Z Z t.length q (aid _) ?_|refine uI Z W Z Q Z ?_|refine ag.store hX kn Z Z Z Z Z Z Z Z Z hq Z ?_|refine xY ?_ (hq:=U)|refine xY ?_ (hq:=hc))
  all_goals rfl
end Go.Proofs
