/- Methods of package run's machine that keep its blocks' names; -/
import Derived.Test.YtdnpapgijbhofaaGreatDoorRunE
import Derived.Test.YtdnpapgijbhofaaGreatDoorRun3
open Go.IntKind
open Go.Proofs.Tryz
set_option linter.defProp false
set_option maxHeartbeats 0
set_option linter.unusedVariables false
set_option linter.unusedSimpArgs false
set_option maxRecDepth 100000
namespace Go.Proofs
open Go.cM
def vf(f:FuncId)(S:b9)(J:L AV)(r:CV)(S':b9):Prop :=
 qy f (mI (mC S) (bD (sR S.st)) (bD (fR S.fr))) (.ptr 1000000 0::J) (.c r) (mI (mC S') (bD (sR S'.st)) (bD (fR S'.fr)))
def MW{f:FuncId}{n:Nat}{β:je}{K:L Item}{env:Env}{P:Func}(hf:Tryz.prog.funcs[f]?=some P){bs:L (Nat×L AV)}{ts:L (Nat×Nat)}{us:L Nat}{l:L AV}(E:rJ Tryz.X bs env P.results.toList=some l)
  {v:CV}(B:close (AB l)=some v){S':b9}{cells G H:L AV}(h1:ak 1000000 bs=some cells)(C:cells=mC S' 1000001 1000002)(h2:ak 1000001 bs=some G)(Q:G=ag (sR S'.st))(Y:ak 1000002 bs=some H)(V:H=ag (fR S'.fr)){r:CV}(S:v=r) :
  Dj f n β (HR β (.c r) (mI (mC S') (bD (sR S'.st)) (bD (fR S'.fr)))) (.code .ret::K) env ⟨bs,ts,us⟩:=by
 subst C Q V S;refine AK.Cb (.inl ⟨_,Z⟩) hX hf E [(1000000,1000000),(1000001,1000001),(1000002,1000002)] Z (.inr B) ⟨⟨_,_,Z,h1,(Cv S').conv _ _ _ _ _ _ Z Z⟩,⟨_,_,Z,h2,dy _⟩,⟨_,_,Z,Y,dy _⟩,trivial⟩
def uMK{ops:Array Oper}{o:Oper}{rest:L Oper}{env:Env}{acc:L Fp}{Q:Env->St->L Fp->Prop}{bs:L (Nat×L AV)}{ts:L (Nat×Nat)}{us:L Nat}(p:cS ops.toList kn env o=some true){f:FuncId}{args:Array Operand}{H:Array TypeId}(P:o.op = .call {callee := .value (.func f),args:=args,argTypes:=H})
  {S S':b9}{G:L AV}{r:CV}(hq:vf f S G r S'){d:Nat}(O:o.dst=some d)
  {l:L AV}(B:gk (aJ Tryz.X env) args.toList=some l){Y:Nat}{V:L AV}(W:l = .ptr Y 0::V){E q:Nat}{J T U:L AV}(h1:ak Y bs=some J)(C:J=mC S E q)(h2:ak E bs=some T)(N:T=ag (sR S.st))(K:ak q bs=some U)(M:U=ag (fR S.fr))
  (I:∀ts,eY ⟨λk=>ak k [(1000000,Y),(1000001,E),(1000002,q)],λ_=>none⟩ ts G V)(D:Go.cM.distinct [Y,E,q]=true)
  {bs':L (Nat×L AV)}(A:kV [Y,E,q] bs=bs')
  (k:nD ops rest ((d,.c r)::env) ⟨(Y,mC S' E q)::(E,ag (sR S'.st))::(q,ag (fR S'.fr))::bs',ts,Y::E::q::us⟩ (⟨[],[Y,E,q,Y,E,q,Y,E,q]⟩::acc) Q):nD ops (o::rest) env ⟨bs,ts,us⟩ acc Q:=by
 subst W;exact ah.Vn kn p P hq (Cv S) (Cv S') O B Z h1 C h2 N K M (λts=>⟨_,_,Z,⟨_,gp,Z⟩,I ts⟩) D Z Z A k
def Ji{ops:Array Oper}{o:Oper}{rest:L Oper}{env:Env}{acc:L Fp}{Q:Env->St->L Fp->Prop}{bs:L (Nat×L AV)}{ts:L (Nat×Nat)}{us:L Nat}{f:FuncId}{args:Array Operand}{H:Array TypeId}{S S':b9}{G:L AV}{r:CV}{d:Nat}{l:L AV}{Y:Nat}{V:L AV}{E q:Nat}{J T U:L AV}{bs':L (Nat×L AV)}(k:nD ops rest ((d,.c r)::env) ⟨(Y,mC S' E q)::(E,ag (sR S'.st))::(q,ag (fR S'.fr))::bs',ts,Y::E::q::us⟩ (⟨[],[Y,E,q,Y,E,q,Y,E,q]⟩::acc) Q)(p:cS ops.toList kn env o=some true:=by exact rfl)(P:o.op = .call {callee := .value (.func f),args:=args,argTypes:=H}:=by exact rfl)(hq:vf f S G r S':=by assumption)(O:o.dst=some d:=by exact rfl)(B:gk (aJ Tryz.X env) args.toList=some l:=by exact rfl)(W:l = .ptr Y 0::V:=by exact rfl)(h1:ak Y bs=some J:=by exact rfl)(C:J=mC S E q:=by exact rfl)(h2:ak E bs=some T:=by exact rfl)(N:T=ag (sR S.st):=by exact rfl)(K:ak q bs=some U:=by exact rfl)(M:U=ag (fR S.fr):=by exact rfl)(I:∀ts,eY ⟨λk=>ak k [(1000000,Y),(1000001,E),(1000002,q)],λ_=>none⟩ ts G V:=by intro _;repeat' (first|exact rfl|refine ZT rfl ?_|refine ZU rfl ?_))(D:Go.cM.distinct [Y,E,q]=true:=by exact rfl)(A:kV [Y,E,q] bs=bs':=by exact rfl): nD ops (o::rest) env ⟨bs,ts,us⟩ acc Q:=uMK p P hq O B W h1 C h2 N K M I D A k
def MV(f:gU)(t:List gU):fX (0+t.length*4+1) (ag (fR (f::t)))=some [.c (aE (f.pos:Nat)),.c (aE f.fin),.c (.sl 7 (aa f.aside))]:=uN _ 1 _ _ _ (wA f t) rfl
def sF(f:gU)(t:List gU):fX (0+t.length*4+2) (ag (fR (f::t)))=some [.c (aE f.fin),.c (.sl 7 (aa f.aside))]:=uN _ 2 _ _ _ (wA f t) rfl
def CQ(f:gU)(t:List gU):fX (0+t.length*4+3) (ag (fR (f::t)))=some [.c (.sl 7 (aa f.aside))]:=uN _ 3 _ _ _ (wA f t) rfl
def MX(f:gU)(t:List gU):dI (0+t.length*4+1) [.c (aE 0)] (ag (fR (f::t)))=some (ag (fR ({f with pos:=0}::t))):=Cg f t 0
attribute [local irreducible] AK ah aZ cx dM dV mB
def MY(S:b9)(h:S.oC<=S.used):vf 108 S [] (aE 12) S:=by
 have A:decide (S.used>=S.oC)=true:=aaw h;refine dM.of func108 Z (λJ w=>call108 J w) (ZD Z) [(0,.ptr 1000000 0)] ⟨[(1000000,mC (S) 1000001 1000002),(1000001,ag (sR (S).st)),(1000002,ag (fR (S).fr))],[],[1000000,1000001,1000002]⟩ Z Z λβ=>?_;have hf:=func108
 repeat' (first|refine me ?_|refine zc ?_ ?_|(intro h;first|(cases h;done)|rw[h]|skip))
 exact YN
def MZ(S:b9)(h:S.used<S.oC)(h1:Mh S.oC)(h2:0<=S.used):vf 108 S [] (aE 0) {S with used:=S.used+1}:=by
 have A:decide (S.used>=S.oC)=false:=aax bn;have D:i64.wrap (S.used+1)=S.used+1:=gF bn (by have:=h1.2;omega);refine dM.of func108 Z (λJ w=>call108 J w) (ZD Z) [(0,.ptr 1000000 0)] ⟨[(1000000,mC (S) 1000001 1000002),(1000001,ag (sR (S).st)),(1000002,ag (fR (S).fr))],[],[1000000,1000001,1000002]⟩ Z Z λβ=>?_;have hf:=func108
 repeat' (first|refine me ?_|refine zc ?_ ?_|(intro h;first|(cases h;done)|rw[h]|skip))
 rw[D];exact YN
def RB(S:b9)(h:S.st=[]):vf 131 S [] (.gb [bO nE,.bool false]) S:=by
 obtain⟨a,b,c,d,st,H,g,u,m,G⟩:=S;simp only at h;subst h;have A:decide (i64.wrap (((([]:L Vl).length:Nat):Int)-1)<0)=true:=by decide
 refine dM.of func131 Z (λJ w=>call131 J w) (ZD Z) [(0,.ptr 1000000 0)] ⟨[(1000000,mC (b9.mk a b c d [] H g u m G) 1000001 1000002),(1000001,ag (sR (b9.mk a b c d [] H g u m G).st)),(1000002,ag (fR (b9.mk a b c d [] H g u m G).fr))],[],[1000000,1000001,1000002]⟩ Z Z λβ=>?_;have hf:=func131
 repeat' (first|refine me ?_|refine zc ?_ ?_|(intro h;first|(cases h;done)|rw[h]|skip))
 exact YN
def zj(S:b9)(v:Vl)(t:L Vl)(h:S.st=v::t)(B:t.length<=1099511627776):vf 131 S [] (.gb [bO v,.bool true]) {S with st:=t}:=by
 obtain⟨a,b,c,d,st,H,g,u,m,G⟩:=S;simp only at h;subst h;have D:i64.wrap ((((v::t).length:Nat):Int)-1)=(t.length:Nat):=by
  rw[gF fc fc];simp only[aac];omega
 have A:decide (i64.wrap ((((v::t).length:Nat):Int)-1)<0)=false:=by rw[D];exact aax bn
 obtain⟨k,n,V,s,J,Y,W⟩:=v;have U:=FZ k n V s J Y W t;refine dM.of func131 Z (λJ w=>call131 J w) (ZD Z) [(0,.ptr 1000000 0)] ⟨[(1000000,mC (b9.mk a b c d (.mk k n V s J Y W::t) H g u m G) 1000001 1000002),(1000001,ag (sR (b9.mk a b c d (.mk k n V s J Y W::t) H g u m G).st)),(1000002,ag (fR (b9.mk a b c d (.mk k n V s J Y W::t) H g u m G).fr))],[],[1000000,1000001,1000002]⟩ Z Z λβ=>?_;have hf:=func131
 repeat' (first|refine me ?_|refine zc ?_ ?_|(intro h;first|(cases h;done)|rw[h]|skip)|refine ah.iF hX kn Z Z Z Z Z Z Z Z Z t.length D (ZX _) ?_|refine ah.gh hX kn Z Z Z Z Z Z U Z ?_|refine ah.AQ hX kn Z Z Z Z Z Z Z Z Z Z Z Z t.length D (abG _) ?_)
 refine AK.tJ 1000001 (ag (sR t)) _ Z (Cx _ _) Z ?_;exact YN
def Oy{X:Go.cM.Ctx}{env:Env}{y:Operand}{z:Int}{O:IntKind}{h:Nat}(B:aJ X env y=some (.c (.int O z)))(K:z=h):bound (aJ X env) (some y)=some (some h):=by subst K;simp only[bound,B,asNat]
def xG(S:b9)(F:gU)(t:List gU)(h:S.fr=F::t)(H:F.fin=0)(B:t.length<=1099511627776):cz 106 S [.ptr 1000002 (0+t.length*4)] (aE 0) {S with fr:=t}:=by
 obtain⟨a,b,c,d,T,fr,g,u,m,Y⟩:=S;obtain⟨W,G,fin,p⟩:=F;simp only at h H;subst h H;have h2:=sF ⟨W,G,0,p⟩ t;have J:i64.wrap ((((gU.mk W G 0 p::t).length:Nat):Int)-1)=(t.length:Nat):=by
  rw[gF fc fc];simp only[aac];omega
 refine mn func106 call106 λβ hf=>?_
 repeat' ((fail_if_success (refine jQ 28 ?_));first|refine me ?_|refine zc ?_ ?_|(intro h;first|(cases h;done)|rw[h]|skip)|refine AK.skip ?_|refine AK.seq ?_|refine AK.block ?_|refine AK.exit Z ?_|refine ah.gh hX kn Z Z Z Z Z Z h2 Z ?_|refine ah.sliceB hX kn Z Z Z Z Z Z Z Z (l:=none) (h:=some t.length) Z (Oy Z J) (abG _) (aaF _) ?_|(refine uA Z ?_ ?_<;>(try (show(_:Nat)*_<=_;dsimp only))))
 refine AK.tJ 1000002 (cells:=ag (fR (⟨W,G,0,p⟩::t))) (ag (fR t)) (ag [qi ⟨W,G,0,p⟩]) Z (kN _ _) Z ?_;exact dm
def Lv(a b c d:Int)(T:L Vl)(g u m:Int)(S:Vl)(W:L Nd)(G:Nat)(p:L Vl)(t:List gU)(V:T.length<=500000000)(U:p.length<=500000000)(B:t.length<=1099511627776):cz 106 ⟨a,b,c,d,T,⟨W,G,1,p⟩::t,g,u,m,S⟩ [.ptr 1000002 (0+t.length*4)] (aE 0) ⟨a,b,c,d,p.reverse++T,t,g,u,m,S⟩:=by
 have h2:=sF ⟨W,G,1,p⟩ t;have K:=CQ ⟨W,G,1,p⟩ t;have J:i64.wrap (((((⟨W,G,1,p⟩:gU)::t).length:Nat):Int)-1)=(t.length:Nat):=by
  rw[gF fc fc];simp only[aac];omega
 have Y:sR T++aa p=sR (p.reverse++T):=by rw[sR,sR,acn,abw,jO]
 have A:((sR T).length+(aa p).length)*112<=140737488355328:=by rw[ig,aB];omega
 refine mn func106 call106 λβ hf=>?_
 repeat' ((fail_if_success (refine jQ 28 ?_));first|refine me ?_|refine zc ?_ ?_|(intro h;first|(cases h;done)|rw[h]|skip)|refine AK.skip ?_|refine AK.seq ?_|refine AK.block ?_|refine AK.exit Z ?_|refine ah.gh hX kn Z Z Z Z Z Z h2 Z ?_|refine ah.gh hX kn Z Z Z Z Z Z K Z ?_|refine ah.lQ hX kn Z Z Z Z Z Z Z Z Z Z Z Z Z Z Z (sR T) [] (Zc _).symm (ig _).symm (rU _) Z Z Z Z Z Z Z A Y (m:=(p.reverse++T).length) (ig _) Z ?_|refine ah.sliceB hX kn Z Z Z Z Z Z Z Z (l:=none) (h:=some t.length) Z (Oy Z J) (abG _) (aaF _) ?_|(refine uA Z ?_ ?_<;>(try (show(_:Nat)*_<=_;dsimp only))))
 refine AK.tJ 1000002 (cells:=ag (fR (⟨W,G,1,p⟩::t))) (ag (fR t)) (ag [qi ⟨W,G,1,p⟩]) Z (kN _ _) Z ?_;exact dm
def Gp(a b c d:Int)(T:L Vl)(g u m:Int)(S:Vl)(W:L Nd)(G:Nat)(p:L Vl)(t:List gU)(B:t.length<=1099511627776):cz 106 ⟨a,b,c,d,[],⟨W,G,2,p⟩::t,g,u,m,S⟩ [.ptr 1000002 (0+t.length*4)] (aE 14) ⟨a,b,c,d,[],⟨W,G,2,p⟩::t,g,u,m,S⟩:=by
 have h2:=sF ⟨W,G,2,p⟩ t;have K:=CQ ⟨W,G,2,p⟩ t;have J:i64.wrap (((((⟨W,G,2,p⟩:gU)::t).length:Nat):Int)-1)=(t.length:Nat):=by
  rw[gF fc fc];simp only[aac];omega
 refine mn func106 call106 λβ hf=>?_
 repeat' (first|refine me ?_|refine zc ?_ ?_|(intro h;first|(cases h;done)|rw[h]|skip)|refine AK.skip ?_|refine AK.seq ?_|refine AK.block ?_|refine AK.exit Z ?_|refine ah.gh hX kn Z Z Z Z Z Z h2 Z ?_|(refine uA Z ?_ ?_<;>(try (show(_:Nat)*_<=_;dsimp only))))
 all_goals rfl
def Gq(a b c d:Int)(v:Vl)(T:L Vl)(g u m:Int)(S:Vl)(W:L Nd)(G:Nat)(t:List gU)(I:T.length<=500000000)(B:t.length<=1099511627776):cz 106 ⟨a,b,c,d,v::T,⟨W,G,2,[]⟩::t,g,u,m,S⟩ [.ptr 1000002 (0+t.length*4)] (aE 0) ⟨a,b,c,d,[v],t,g,u,m,S⟩:=by
 have h2:=sF ⟨W,G,2,[]⟩ t;have K:=CQ ⟨W,G,2,[]⟩ t;have J:i64.wrap (((((⟨W,G,2,[]⟩:gU)::t).length:Nat):Int)-1)=(t.length:Nat):=by
  rw[gF fc fc];simp only[aac];omega
 have V:i64.wrap ((((T.length+1:Nat)):Int)-1)=(T.length:Nat):=by rw[gF bn bn];omega
 have q:((((T.length+1:Nat)):Int)==0)=false:=beq_eq_false_iff_ne.2 bn;obtain⟨C,U,Q,P,Y,O,N⟩:=v;have M:=FZ C U Q P Y O N T;refine mn func106 call106 λβ hf=>?_
 repeat' ((fail_if_success (refine jQ 28 ?_));first|refine me ?_|refine zc ?_ ?_|(intro h;first|(cases h;done)|rw[h]|skip)|refine AK.skip ?_|refine AK.seq ?_|refine AK.block ?_|refine AK.exit rfl ?_|refine ah.gh hX kn rfl rfl rfl rfl rfl rfl h2 rfl ?_|refine ah.iF hX kn rfl rfl rfl rfl rfl rfl rfl rfl rfl T.length V (ZX _) ?_|refine ah.gh hX kn rfl rfl rfl rfl rfl rfl M rfl ?_|refine ah.gh hX kn rfl rfl rfl rfl rfl rfl K rfl ?_|refine ah.wo kn rfl rfl (jb 7) rfl rfl (λ_=>⟨_,_,rfl,.inr rfl,rfl⟩) rfl rfl ?_|refine ah.uq hX kn rfl rfl rfl rfl rfl rfl rfl rfl rfl rfl rfl rfl rfl rfl rfl rfl rfl rfl (λh=>by cases h) rfl rfl rfl (show(0+1)*112<=140737488355328 by decide) rfl (m:=1) rfl ?_|refine ah.sliceB hX kn rfl rfl rfl rfl rfl rfl rfl rfl (l:=none) (h:=some t.length) rfl (Oy rfl J) (abG _) (aaF _) ?_|(refine uA rfl ?_ ?_<;>(try (show(_:Nat)*_<=_;dsimp only))))
 refine AK.tJ 1000002 (cells:=ag (fR (⟨W,G,2,[]⟩::t))) (ag (fR t)) (ag [qi ⟨W,G,2,[]⟩]) Z (kN _ _) Z ?_;exact dm
def Gr(a b c d:Int)(v:Vl)(T:L Vl)(g u m:Int)(S:Vl)(W:L Nd)(G:Nat)(x:Vl)(q:L Vl)(t:List gU)(E:T.length<=500000000)(D:q.length<=500000000)(B:t.length<=1099511627776):cz 106 ⟨a,b,c,d,v::T,⟨W,G,2,(x::q)⟩::t,g,u,m,S⟩ [.ptr 1000002 (0+t.length*4)] (aE 0) ⟨a,b,c,d,v::(x::q).reverse,t,g,u,m,S⟩:=by
 have h2:=sF ⟨W,G,2,(x::q)⟩ t;have K:=CQ ⟨W,G,2,(x::q)⟩ t;have J:i64.wrap (((((⟨W,G,2,(x::q)⟩:gU)::t).length:Nat):Int)-1)=(t.length:Nat):=by
  rw[gF fc fc];simp only[aac];omega
 have I:i64.wrap ((((T.length+1:Nat)):Int)-1)=(T.length:Nat):=by rw[gF bn bn];omega
 have hz:((((T.length+1:Nat)):Int)==0)=false:=beq_eq_false_iff_ne.2 bn;obtain⟨C,U,V,Q,Y,P,O⟩:=v;have H:=FZ C U V Q Y P O T;have p:=eV x q bn;have N:aa (x::q)++aa [.mk C U V Q Y P O]=sR (.mk C U V Q Y P O::(x::q).reverse):=by rw[sR,abX,abw,jO]
 have M:(bD (aa (x::q))).length=(q.length+1)*7:=by rw[cZ (rows:=aa (x::q)) (s:=7) (fQ _),aB];rfl
 have A:((aa (x::q)).length+1)*112<=140737488355328:=by rw[aB,aac];omega
 refine mn func106 call106 λβ hf=>?_
 repeat' ((fail_if_success (refine jQ 28 ?_));first|refine me ?_|refine zc ?_ ?_|(intro h;first|(cases h;done)|rw[h]|skip)|refine AK.skip ?_|refine AK.seq ?_|refine AK.block ?_|refine AK.exit Z ?_|refine ah.gh hX kn Z Z Z Z Z Z h2 Z ?_|refine ah.iF hX kn Z Z Z Z Z Z Z Z Z T.length I (ZX _) ?_|refine ah.gh hX kn Z Z Z Z Z Z H Z ?_|refine ah.gh hX kn Z Z Z Z Z Z K Z ?_|refine ah.kr kn Z Z Z Z Z Z p Z ?_|refine ah.lQ hX kn Z Z Z Z Z Z Z Z Z Z Z Z Z Z Z (aa (x::q)) [] (Zc _).symm (aB (x::q)).symm M Z Z Z Z Z Z Z A N (m:=(Vl.mk C U V Q Y P O::(x::q).reverse).length) (ig _) Z ?_|refine ah.sliceB hX kn Z Z Z Z Z Z Z Z (l:=none) (h:=some t.length) Z (Oy Z J) (abG _) (aaF _) ?_|(refine uA Z ?_ ?_<;>(try (show(_:Nat)*_<=_;dsimp only))))
 refine AK.tJ 1000002 (cells:=ag (fR (⟨W,G,2,(x::q)⟩::t))) (ag (fR t)) (ag [qi ⟨W,G,2,(x::q)⟩]) Z (kN _ _) Z ?_;exact dm
def Gs(a b c d:Int)(T:L Vl)(g u m:Int)(S:Vl)(W:L Nd)(G:Nat)(t:List gU)(B:t.length<=1099511627776):cz 106 ⟨a,b,c,d,T,⟨W,G,3,[]⟩::t,g,u,m,S⟩ [.ptr 1000002 (0+t.length*4)] (aE 0) ⟨a,b,c,d,T,t,g,u,m,S⟩:=by
 have h2:=sF ⟨W,G,3,[]⟩ t;have K:=CQ ⟨W,G,3,[]⟩ t;have J:i64.wrap (((((⟨W,G,3,[]⟩:gU)::t).length:Nat):Int)-1)=(t.length:Nat):=by
  rw[gF fc fc];simp only[aac];omega
 refine mn func106 call106 λβ hf=>?_
 repeat' ((fail_if_success (refine jQ 28 ?_));first|refine me ?_|refine zc ?_ ?_|(intro h;first|(cases h;done)|rw[h]|skip)|refine AK.skip ?_|refine AK.seq ?_|refine AK.block ?_|refine AK.exit Z ?_|refine ah.gh hX kn Z Z Z Z Z Z h2 Z ?_|refine ah.gh hX kn Z Z Z Z Z Z K Z ?_|refine ah.sliceB hX kn Z Z Z Z Z Z Z Z (l:=none) (h:=some t.length) Z (Oy Z J) (abG _) (aaF _) ?_|(refine uA Z ?_ ?_<;>(try (show(_:Nat)*_<=_;dsimp only))))
 refine AK.tJ 1000002 (cells:=ag (fR (⟨W,G,3,[]⟩::t))) (ag (fR t)) (ag [qi ⟨W,G,3,[]⟩]) Z (kN _ _) Z ?_;exact dm
def Gt(a b c d:Int)(T:L Vl)(g u m:Int)(S:Vl)(W:L Nd)(G:Nat)(x:Vl)(q:L Vl)(t:List gU)(p:g<=u)(B:t.length<=1099511627776):cz 106 ⟨a,b,c,d,T,⟨W,G,3,x::q⟩::t,g,u,m,S⟩ [.ptr 1000002 (0+t.length*4)] (aE 12) ⟨a,b,c,d,T,⟨W,G,3,x::q⟩::t,g,u,m,S⟩:=by
 have h2:=sF ⟨W,G,3,x::q⟩ t;have K:=CQ ⟨W,G,3,x::q⟩ t;have J:i64.wrap (((((⟨W,G,3,x::q⟩:gU)::t).length:Nat):Int)-1)=(t.length:Nat):=by
  rw[gF fc fc];simp only[aac];omega
 have D:=MY ⟨a,b,c,d,T,⟨W,G,3,x::q⟩::t,g,u,m,S⟩ p;have A:decide ((((aa (x::q)).length:Nat):Int)>0)=true:=aaw (by rw[aB,aac];omega);refine mn func106 call106 λβ hf=>?_
 repeat' (first|refine me ?_|refine zc ?_ ?_|(intro h;first|(cases h;done)|rw[h]|skip)|refine AK.skip ?_|refine AK.seq ?_|refine AK.block ?_|refine AK.exit Z ?_|refine ah.gh hX kn Z Z Z Z Z Z h2 Z ?_|refine ah.gh hX kn Z Z Z Z Z Z K Z ?_|refine Ji ?_ (hq:=D)|(refine uA Z ?_ ?_<;>(try (show(_:Nat)*_<=_;dsimp only))))
 all_goals rfl
def Gu(a b c d:Int)(T:L Vl)(g u m:Int)(S:Vl)(W:L Nd)(G:Nat)(x:Vl)(q:L Vl)(t:List gU)(p:u<g)(K:Mh g)(H:0<=u)(E:T.length<=500000000)(B:t.length<=1099511627776):cz 106 ⟨a,b,c,d,T,⟨W,G,3,x::q⟩::t,g,u,m,S⟩ [.ptr 1000002 (0+t.length*4)] (aE 0) ⟨a,b,c,d,x::T,⟨W,0,3,q⟩::t,g,u+1,m,S⟩:=by
 have h2:=sF ⟨W,G,3,x::q⟩ t;have M:=CQ ⟨W,G,3,x::q⟩ t;have hw:i64.wrap (((((⟨W,G,3,x::q⟩:gU)::t).length:Nat):Int)-1)=(t.length:Nat):=by
  rw[gF fc fc];simp only[aac];omega
 have D:=MZ ⟨a,b,c,d,T,⟨W,G,3,x::q⟩::t,g,u,m,S⟩ p K H;have hc:decide ((((aa (x::q)).length:Nat):Int)>0)=true:=aaw (by rw[aB,aac];omega);obtain⟨C,U,Q,P,Y,O,N⟩:=x;have J:=KN C U Q P Y O N T;have A:((sR T).length+1)*112<=140737488355328:=by rw[ig];omega
 have V:=QM ⟨W,G,3,.mk C U Q P Y O N::q⟩ t q;have I:=MX ⟨W,G,3,q⟩ t;refine mn func106 call106 λβ hf=>?_
 repeat' (first|refine me ?_|refine zc ?_ ?_|(intro h;first|(cases h;done)|rw[h]|skip)|refine AK.skip ?_|refine AK.seq ?_|refine AK.block ?_|refine AK.exit Z ?_|refine ah.gh hX kn Z Z Z Z Z Z h2 Z ?_|refine ah.gh hX kn Z Z Z Z Z Z M Z ?_|refine Ji ?_ (hq:=D)|refine uI Z (0) Z (Z) Z ?_|refine ah.lQ hX kn Z Z Z Z Z Z Z Z Z Z Z Z Z Z Z (sR T) [] (Zc _).symm (ig _).symm (rU _) Z Z Z Z Z Z Z A Z (m:=T.length+1) (by rw[aay,ig];rfl) Z ?_|refine ah.iF hX kn Z Z Z Z Z Z Z Z Z T.length Z (ZX _) ?_|refine ah.store hX kn Z Z Z Z Z Z Z Z Z (J _ Z) Z ?_|refine ah.sliceFrom hX kn Z Z Z Z Z Z Z Z (m:=1) Z (Nat.succ_le_succ (aaF _)) ?_|refine ah.store hX kn Z Z Z Z Z Z Z Z Z V Z ?_|refine ah.store hX kn Z Z Z Z Z Z Z Z Z I Z ?_|(refine uA Z ?_ ?_<;>(try (show(_:Nat)*_<=_;dsimp only))))
 all_goals rfl
def Gv(a b c d:Int)(T:L Vl)(g u m:Int)(G:Vl)(W:L Nd)(S:Nat)(p:L Vl)(t:List gU)(V:T.length<=500000000)(B:t.length<=1099511627776):cz 106 ⟨a,b,c,d,[],⟨W,S,4,p⟩::t,g,u,m,G⟩ [.ptr 1000002 (0+t.length*4)] (aE 14) ⟨a,b,c,d,[],⟨W,S,4,p⟩::t,g,u,m,G⟩:=by
 have h2:=sF ⟨W,S,4,p⟩ t;have J:i64.wrap (((((⟨W,S,4,p⟩:gU)::t).length:Nat):Int)-1)=(t.length:Nat):=by
  rw[gF fc fc];simp only[aac];omega
 have q:=RB ⟨a,b,c,d,[],⟨W,S,4,p⟩::t,g,u,m,G⟩ Z;refine mn func106 call106 λβ hf=>?_
 repeat' (first|refine me ?_|refine zc ?_ ?_|(intro h;first|(cases h;done)|rw[h]|skip)|refine AK.skip ?_|refine AK.seq ?_|refine AK.block ?_|refine AK.exit Z ?_|refine ah.gh hX kn Z Z Z Z Z Z h2 Z ?_|refine Ji ?_ (hq:=q)|(refine uA Z ?_ ?_<;>(try (show(_:Nat)*_<=_;dsimp only))))
 all_goals rfl
def Gy(a b c d:Int)(C U V:Int)(Q:L UInt8)(Y:L Vl)(P:L Ty)(O:L Nd)(E:¬U=1)(T:L Vl)(g u m:Int)(S:Vl)(W:L Nd)(G:Nat)(p:L Vl)(t:List gU)(N:T.length<=500000000)(B:t.length<=1099511627776):cz 106 ⟨a,b,c,d,.mk C U V Q Y P O::T,⟨W,G,4,p⟩::t,g,u,m,S⟩ [.ptr 1000002 (0+t.length*4)] (aE 0) ⟨a,b,c,d,T,t,g,u,m,S⟩:=by
 have h2:=sF ⟨W,G,4,p⟩ t;have J:i64.wrap (((((⟨W,G,4,p⟩:gU)::t).length:Nat):Int)-1)=(t.length:Nat):=by
  rw[gF fc fc];simp only[aac];omega
 have q:=zj ⟨a,b,c,d,.mk C U V Q Y P O::T,⟨W,G,4,p⟩::t,g,u,m,S⟩ (.mk C U V Q Y P O) T Z bn;have A:(U==1)=false:=beq_eq_false_iff_ne.2 E;refine mn func106 call106 λβ hf=>?_
 repeat' ((fail_if_success (refine jQ 28 ?_));first|refine me ?_|refine zc ?_ ?_|(intro h;first|(cases h;done)|rw[h]|skip)|refine AK.skip ?_|refine AK.seq ?_|refine AK.block ?_|refine AK.exit Z ?_|refine ah.gh hX kn Z Z Z Z Z Z h2 Z ?_|refine Ji ?_ (hq:=q)|refine ah.sliceB hX kn Z Z Z Z Z Z Z Z (l:=none) (h:=some t.length) Z (Oy Z J) (abG _) (aaF _) ?_|(refine uA Z ?_ ?_<;>(try (show(_:Nat)*_<=_;dsimp only))))
 refine AK.tJ 1000002 (cells:=ag (fR (⟨W,G,4,p⟩::t))) (ag (fR t)) (ag [qi ⟨W,G,4,p⟩]) Z (kN _ _) Z ?_;exact dm
def Gw(a b c d:Int)(C V:Int)(U:L UInt8)(Y:L Vl)(Q:L Ty)(P:L Nd)(T:L Vl)(g u m:Int)(G:Vl)(W:L Nd)(S:Nat)(p:L Vl)(t:List gU)(N:g<=u)(O:T.length<=500000000)(B:t.length<=1099511627776):cz 106 ⟨a,b,c,d,.mk C 1 V U Y Q P::T,⟨W,S,4,p⟩::t,g,u,m,G⟩ [.ptr 1000002 (0+t.length*4)] (aE 12) ⟨a,b,c,d,T,⟨W,S,4,p⟩::t,g,u,m,G⟩:=by
 have h2:=sF ⟨W,S,4,p⟩ t;have J:i64.wrap (((((⟨W,S,4,p⟩:gU)::t).length:Nat):Int)-1)=(t.length:Nat):=by
  rw[gF fc fc];simp only[aac];omega
 have q:=zj ⟨a,b,c,d,.mk C 1 V U Y Q P::T,⟨W,S,4,p⟩::t,g,u,m,G⟩ (.mk C 1 V U Y Q P) T Z bn;have hq:=MY ⟨a,b,c,d,T,⟨W,S,4,p⟩::t,g,u,m,G⟩ N;refine mn func106 call106 λβ hf=>?_
 repeat' (first|refine me ?_|refine zc ?_ ?_|(intro h;first|(cases h;done)|rw[h]|skip)|refine AK.skip ?_|refine AK.seq ?_|refine AK.block ?_|refine AK.exit Z ?_|refine ah.gh hX kn Z Z Z Z Z Z h2 Z ?_|refine Ji ?_ (hq:=q)|refine Ji ?_ (hq:=hq)|(refine uA Z ?_ ?_<;>(try (show(_:Nat)*_<=_;dsimp only))))
 all_goals rfl
def Gx(a b c d:Int)(C V:Int)(U:L UInt8)(Y:L Vl)(Q:L Ty)(P:L Nd)(T:L Vl)(g u m:Int)(G:Vl)(W:L Nd)(S:Nat)(p:L Vl)(t:List gU)(N:u<g)(K:Mh g)(H:0<=u)(M:T.length<=500000000)(B:t.length<=1099511627776):cz 106 ⟨a,b,c,d,.mk C 1 V U Y Q P::T,⟨W,S,4,p⟩::t,g,u,m,G⟩ [.ptr 1000002 (0+t.length*4)] (aE 0) ⟨a,b,c,d,T,⟨W,0,4,p⟩::t,g,u+1,m,G⟩:=by
 have h2:=sF ⟨W,S,4,p⟩ t;have J:i64.wrap (((((⟨W,S,4,p⟩:gU)::t).length:Nat):Int)-1)=(t.length:Nat):=by
  rw[gF fc fc];simp only[aac];omega
 have q:=zj ⟨a,b,c,d,.mk C 1 V U Y Q P::T,⟨W,S,4,p⟩::t,g,u,m,G⟩ (.mk C 1 V U Y Q P) T Z bn;have hq:=MZ ⟨a,b,c,d,T,⟨W,S,4,p⟩::t,g,u,m,G⟩ N K H;have O:=MX ⟨W,S,4,p⟩ t;refine mn func106 call106 λβ hf=>?_
 repeat' (first|refine me ?_|refine zc ?_ ?_|(intro h;first|(cases h;done)|rw[h]|skip)|refine AK.skip ?_|refine AK.seq ?_|refine AK.block ?_|refine AK.exit Z ?_|refine ah.gh hX kn Z Z Z Z Z Z h2 Z ?_|refine Ji ?_ (hq:=q)|refine Ji ?_ (hq:=hq)|refine ah.store hX kn Z Z Z Z Z Z Z Z Z O Z ?_|(refine uA Z ?_ ?_<;>(try (show(_:Nat)*_<=_;dsimp only))))
 all_goals rfl
end Go.Proofs
namespace Go.Proofs
open Go.cM
def Z8(Y C K:Prop)[Decidable Y][Decidable C][Decidable K]:(if Y then 0 else if C then 2 else if K then 3 else 1:Nat)<=3:=by
 by_cases h1:Y
 ·rw[if_pos h1];omega
 rw[if_neg h1];by_cases h2:C
 ·rw[if_pos h2];omega
 rw[if_neg h2];by_cases W:K
 ·rw[if_pos W];omega
 ·rw[if_neg W];omega
def mK(p:Int):bW p<=3:=by unfold bW;exact Z8 _ _ _
def mL{S:b9}{n:Nat}{l r:L Vl}(E:n<=3)(B:S.st.length<=1099511627776)(h:kJ n S.st=some (l,r)):cz 132 S [.c (aE (n:Nat))] (.gb [.sl 7 (aa l),.bool true]) {S with st:=r}:=by
 have h1:=KV S n E B;rw[h]at h1;exact h1
attribute [local irreducible] AK ah aZ cx dM dV mB bW
def n9(S S':b9)(Y N P:Int)(s:L UInt8)(J:L Nd)(l r:L Vl)(e:Int)(B:P=40\/P=41\/P=42\/P=43\/P=44)(I:kJ (bW P) S.st=some (l,r))(V:S.st.length<=1099511627776)(W:cz 134 {S with st:=r} [.c (aY (.mk Y N P s J)),.c (.sl 7 (aa l))] (aE e) S'):cz 109 S [.c (aY (.mk Y N P s J))] (aE e) S':=by
 have D:=jP P bn;have h1:=mL (mK P) V I;generalize bW P=w at *;clear I;rcases B with rfl|rfl|rfl|rfl|rfl <;>
 ((refine mn func109 call109 λβ hf=>?_);(repeat' (first|refine me ?_|refine zc ?_ ?_|(intro h;first|(cases h;done)|rw[h]|skip)|refine uC Z D ?_|refine rT ?_ (hq:=h1)|refine rT ?_ (hq:=W)));(all_goals rfl))
def ir(S S':b9)(Y N P:Int)(s:L UInt8)(J:L Nd)(l r:L Vl)(e:Int)(B:P=45\/P=46\/P=47\/P=48\/P=49\/P=50\/P=51\/P=53\/P=54\/P=56)(I:kJ (bW P) S.st=some (l,r))(V:S.st.length<=1099511627776)(W:cz 135 {S with st:=r} [.c (aY (.mk Y N P s J)),.c (.sl 7 (aa l))] (aE e) S'):cz 109 S [.c (aY (.mk Y N P s J))] (aE e) S':=by
 have D:=jP P bn;have h1:=mL (mK P) V I;generalize bW P=w at *;clear I;rcases B with rfl|rfl|rfl|rfl|rfl|rfl|rfl|rfl|rfl|rfl <;>
 ((refine mn func109 call109 λβ hf=>?_);(repeat' (first|refine me ?_|refine zc ?_ ?_|(intro h;first|(cases h;done)|rw[h]|skip)|refine uC Z D ?_|refine rT ?_ (hq:=h1)|refine rT ?_ (hq:=W)));(all_goals rfl))
def ff(S S':b9)(Y N P:Int)(s:L UInt8)(J:L Nd)(l r:L Vl)(e:Int)(B:P=52\/P=55\/P=58\/P=60\/P=64\/P=65\/P=66\/P=67\/P=68)(I:kJ (bW P) S.st=some (l,r))(V:S.st.length<=1099511627776)(W:cz 136 {S with st:=r} [.c (aY (.mk Y N P s J)),.c (.sl 7 (aa l))] (aE e) S'):cz 109 S [.c (aY (.mk Y N P s J))] (aE e) S':=by
 have D:=jP P bn;have h1:=mL (mK P) V I;generalize bW P=w at *;clear I;rcases B with rfl|rfl|rfl|rfl|rfl|rfl|rfl|rfl|rfl <;>
 ((refine mn func109 call109 λβ hf=>?_);(repeat' (first|refine me ?_|refine zc ?_ ?_|(intro h;first|(cases h;done)|rw[h]|skip)|refine uC Z D ?_|refine rT ?_ (hq:=h1)|refine rT ?_ (hq:=W)));(all_goals rfl))
def oY(S S':b9)(Y N P:Int)(s:L UInt8)(J:L Nd)(l r:L Vl)(e:Int)(B:P=57\/P=59\/P=61\/P=62\/P=63)(I:kJ (bW P) S.st=some (l,r))(V:S.st.length<=1099511627776)(W:cz 137 {S with st:=r} [.c (aY (.mk Y N P s J)),.c (.sl 7 (aa l))] (aE e) S'):cz 109 S [.c (aY (.mk Y N P s J))] (aE e) S':=by
 have D:=jP P bn;have h1:=mL (mK P) V I;generalize bW P=w at *;clear I;rcases B with rfl|rfl|rfl|rfl|rfl <;>
 ((refine mn func109 call109 λβ hf=>?_);(repeat' (first|refine me ?_|refine zc ?_ ?_|(intro h;first|(cases h;done)|rw[h]|skip)|refine uC Z D ?_|refine rT ?_ (hq:=h1)|refine rT ?_ (hq:=W)));(all_goals rfl))
def dO(S S':b9)(Y N P:Int)(s:L UInt8)(J:L Nd)(l r:L Vl)(e:Int)(B:P=69\/P=70\/P=71\/P=72\/P=93\/P=94\/P=95)(I:kJ (bW P) S.st=some (l,r))(V:S.st.length<=1099511627776)(W:cz 138 {S with st:=r} [.c (aE P),.c (.sl 7 (aa l))] (aE e) S'):cz 109 S [.c (aY (.mk Y N P s J))] (aE e) S':=by
 have D:=jP P bn;have h1:=mL (mK P) V I;generalize bW P=w at *;clear I;rcases B with rfl|rfl|rfl|rfl|rfl|rfl|rfl <;>
 ((refine mn func109 call109 λβ hf=>?_);(repeat' (first|refine me ?_|refine zc ?_ ?_|(intro h;first|(cases h;done)|rw[h]|skip)|refine uC Z D ?_|refine rT ?_ (hq:=h1)|refine rT ?_ (hq:=W)));(all_goals rfl))
def fU(S S':b9)(Y N P:Int)(s:L UInt8)(J:L Nd)(l r:L Vl)(e:Int)(B:P=73\/P=74\/P=75\/P=76\/P=77\/P=78\/P=79\/P=80\/P=81\/P=82\/P=83)(I:kJ (bW P) S.st=some (l,r))(V:S.st.length<=1099511627776)(W:cz 139 {S with st:=r} [.c (aY (.mk Y N P s J)),.c (.sl 7 (aa l))] (aE e) S'):cz 109 S [.c (aY (.mk Y N P s J))] (aE e) S':=by
 have D:=jP P bn;have h1:=mL (mK P) V I;generalize bW P=w at *;clear I;rcases B with rfl|rfl|rfl|rfl|rfl|rfl|rfl|rfl|rfl|rfl|rfl <;>
 ((refine mn func109 call109 λβ hf=>?_);(repeat' (first|refine me ?_|refine zc ?_ ?_|(intro h;first|(cases h;done)|rw[h]|skip)|refine uC Z D ?_|refine rT ?_ (hq:=h1)|refine rT ?_ (hq:=W)));(all_goals rfl))
def jc(S S':b9)(Y N P:Int)(s:L UInt8)(J:L Nd)(l r:L Vl)(e:Int)(B:P=84\/P=85\/P=86\/P=87\/P=88\/P=89\/P=90\/P=91\/P=92)(I:kJ (bW P) S.st=some (l,r))(V:S.st.length<=1099511627776)(W:cz 140 {S with st:=r} [.c (aY (.mk Y N P s J)),.c (.sl 7 (aa l))] (aE e) S'):cz 109 S [.c (aY (.mk Y N P s J))] (aE e) S':=by
 have D:=jP P bn;have h1:=mL (mK P) V I;generalize bW P=w at *;clear I;rcases B with rfl|rfl|rfl|rfl|rfl|rfl|rfl|rfl|rfl <;>
 ((refine mn func109 call109 λβ hf=>?_);(repeat' (first|refine me ?_|refine zc ?_ ?_|(intro h;first|(cases h;done)|rw[h]|skip)|refine uC Z D ?_|refine rT ?_ (hq:=h1)|refine rT ?_ (hq:=W)));(all_goals rfl))
end Go.Proofs
namespace Go.Proofs
open Go.cM
def Fit(t:Ty)(v:Vl):Prop:=lu t v=true/\aO v<=25000000
def dH:L Ty->L Vl->Prop
 |[],[]=>True
 |t::s,v::l=>Fit t v/\dH s l
 |_,_=>False
def bF:∀{s:L Ty}{l:L Vl},dH s l->s.length=l.length
 |[],[],_=>rfl
 |t::s,v::l,h=>by simp only[aac,bF h.2]
 |[],_::_,h=>h.elim
 |_::_,[],h=>h.elim
def bh{t:Ty}{s:L Ty}{l:L Vl}(h:dH (t::s) l):∃v q,l=v::q/\Fit t v/\dH s q:=by
 cases l with
 |nil=>exact h.elim
 |cons v q=>exact⟨v,q,Z,h.1,h.2⟩
def CS:∀{s:L Ty}{l:L Vl}{i:Nat}{t:Ty},dH s l->s[i]?=some t->∃v,l[i]?=some v/\Fit t v
 |t::s,v::l,0,u,h,e=>⟨v,rfl,by simp at e;subst e;exact h.1⟩
 |t::s,v::l,i+1,u,h,e=>CS (i:=i) h.2 (by simpa using e)
 |[],_,_,_,_,e=>by simp at e
 |_::_,[],_,_,h,_=>h.elim
def zk:∀{s:L Ty}{l:L Vl}(i:Nat),dH s l->dH (s.take i) (l.take i)
 |_,_,0,_=>trivial
 |t::s,v::l,i+1,h=>⟨h.1,zk i h.2⟩
 |[],[],i+1,_=>trivial
 |[],_::_,_+1,h=>h.elim
 |_::_,[],_+1,h=>h.elim
def zm:∀{s:L Ty}{l:L Vl}(i:Nat),dH s l->dH (s.drop i) (l.drop i)
 |_,_,0,h=>h
 |t::s,v::l,i+1,h=>zm (s:=s) (l:=l) i h.2
 |[],[],i+1,_=>trivial
 |[],_::_,_+1,h=>h.elim
 |_::_,[],_+1,h=>h.elim
def xT:∀{s r:L Ty}{l m:L Vl},dH s l->dH r m->dH (s++r) (l++m)
 |[],_,[],_,_,h=>h
 |t::s,_,v::l,_,h,h2=>⟨h.1,xT h.2 h2⟩
 |[],_,_::_,_,h,_=>h.elim
 |_::_,_,[],_,h,_=>h.elim
def aH(P:Int)(J:L Nd)(S:b9):MR:=match kJ (bW P) S.st with
 |some (l,r)=>BA P J l {S with st:=r}
 |none=>(14,{S with st:=[]})
def bK(S:b9)(r:L Ty×Bool)(o:MR):Prop :=
 (o.1=0/\o.2.fr=S.fr/\dH r.1 o.2.st/\r.2=false)\/o.1=11\/o.1=13
def bf(G:Int)(Y:L UInt8)(P:Int)(J:L Nd)(S:b9):Prop:=cz 109 S [.c (aY (.mk 2 G P Y J))] (aE (aH P J S).1) (aH P J S).2
def A2:∀(l st:L Vl),(mB l st).1=13\/((mB l st).1=0/\(mB l st).2=l.reverse++st/\∀v∈l,kK v<=200)
 |[],st => .inr ⟨Z,Z,λv h=>by simp at h⟩
 |x::l,st=>by
  unfold mB;by_cases h:kK x>200
  ·simp_all
  ·rw[if_neg h];rcases A2 l (x::st)with h1|⟨h1,h2,K⟩
   ·exact .inl h1
   ·simp_all
def GD{t:Ty}{v:Vl}(h:lu t v=true)(V:kK v<=200):Fit t v:=⟨h,by have:=N6 h;omega⟩
def bX{S:b9}{s:L Ty}{t:Ty}{v:Vl}(h:lu t v=true)(V:dH s S.st):bK S (t::s,false) (bp S [v]):=by
 rcases A2 [v] S.st with h1|⟨h1,h2,K⟩
 ·exact .inr (.inr h1)
 ·refine .inl ⟨h1,Z,?_,Z⟩;show dH _ (mB [v] S.st).2;rw[h2];exact⟨GD h (K v ek),V⟩
def F8{S:b9}{s:L Ty}{t u:Ty}{v w:Vl}(h:lu t v=true)(C:lu u w=true)(V:dH s S.st):bK S (t::u::s,false) (bp S [w,v]):=by
 rcases A2 [w,v] S.st with h1|⟨h1,h2,K⟩
 ·exact .inr (.inr h1)
 ·refine .inl ⟨h1,Z,?_,Z⟩;show dH _ (mB [w,v] S.st).2;rw[h2];exact⟨GD h (K v ek),GD C (K w ek),V⟩
def jk{P:Int}{J:L Nd}{Y:L Ty}(h:bJ P J=some Y):J.length=(fG P).length/\iB (fG P) J []=some Y:=by
 unfold bJ at h;split at h
 ·cases h
 ·simp_all
def cC{P:Int}{J:L Nd}{Y:L Ty}(h:bJ P J=some Y)(V:fG P=[]):J=[]/\Y=[]:=by
 obtain⟨h1,h2⟩:=jk h;rw[V]at h1 h2;obtain rfl:=List.length_eq_zero_iff.1 h1;simp only[iB]at h2;cases h2;exact⟨Z,Z⟩
def CT{P:Int}{J:L Nd}{Y:L Ty}(h:bJ P J=some Y)(V:fG P=[110]):∃N p q x,J=[.mk 0 (N:Nat) p q x]/\N<=40/\Y=[]:=by
 obtain⟨h1,h2⟩:=jk h;rw[V]at h1 h2;obtain⟨y,rfl⟩:=List.length_eq_one_iff.1 h1;obtain⟨W,N,p,q,x⟩:=y;simp only[iB,if_true]at h2;split at h2
 ·rename_i c;obtain⟨rfl,U,C⟩:=c;cases h2;exact⟨N.toNat,p,q,x,by rw[Int.toNat_of_nonneg U],bn,Z⟩
 ·cases h2
def M0:bW 40=1:=by decide +kernel
def M1:bW 41=0:=by decide +kernel
def M3:bW 42=2:=by decide +kernel
def M4:bW 43=0:=by decide +kernel
def M5:bW 44=1:=by decide +kernel
def LD(S:b9)(T:Int)(P:L UInt8)(J:L Nd)(Y s:L Ty)(r:L Ty×Bool)(hf:bJ 40 J=some Y)(V:dH s S.st)(B:s.length<=340)(A:fW 40 J s=(r,0)):bf T P 40 J S/\bK S r (aH 40 J S):=by
 obtain⟨a,b,c,d,st,H,g,u,m,G⟩:=S;obtain⟨rfl,rfl⟩:=cC hf cc;have W:=bF V;cases s with
 |nil=>cases A
 |cons t s =>
  obtain⟨v,q,rfl,U,hq⟩:=bh V;cases A;have e:aH 40 [] ⟨a,b,c,d,v::q,H,g,u,m,G⟩=(0,⟨a,b,c,d,q,H,g,u,m,G⟩):=by unfold aH;rw[M0];rfl
  unfold bf;rw[e];exact⟨n9 _ _ 2 T 40 P [] [v] q 0 cc (by rw[M0];rfl) (by simp only[aac]at *;omega) (Ep _ T P [v]),.inl ⟨Z,Z,hq,Z⟩⟩
def LF(S:b9)(T:Int)(P:L UInt8)(J:L Nd)(Y s:L Ty)(r:L Ty×Bool)(hf:bJ 42 J=some Y)(V:dH s S.st)(W:s.length<=340)(A:fW 42 J s=(r,0)):bf T P 42 J S/\bK S r (aH 42 J S):=by
 obtain⟨a,b,c,d,st,H,g,u,m,G⟩:=S;obtain⟨rfl,rfl⟩:=cC hf cc;have U:=bF V;rcases s with _|⟨O,_|⟨N,s⟩⟩
 ·cases A
 ·cases A
 ·obtain⟨v,E,rfl,B,Q⟩:=bh V;obtain⟨w,q,rfl,D,hq⟩:=bh Q;cases A;have e:aH 42 [] ⟨a,b,c,d,v::w::q,H,g,u,m,G⟩=bp ⟨a,b,c,d,q,H,g,u,m,G⟩ [v,w]:=by unfold aH;rw[M3];rfl
  unfold bf;rw[e];simp only[aac]at U W;exact⟨n9 _ _ 2 T 42 P [] [v,w] q _ cc (by rw[M3];rfl) fc (NV ⟨a,b,c,d,q,H,g,u,m,G⟩ T P v w (by have:=B.2;omega) (by have:=D.2;omega) (by show q.length<=_;omega)),F8 (S:=⟨a,b,c,d,q,H,g,u,m,G⟩) D.1 B.1 hq⟩
def M6{α:Type}{l:List α}{i:Nat}{d:α}(h:i<l.length):l[i]?=some (l.getD i d):=by simp_all
def Oz(S:b9)(T:Int)(P:L UInt8)(J:L Nd)(Y s:L Ty)(r:L Ty×Bool)(hf:bJ 41 J=some Y)(V:dH s S.st)(K:s.length<=340)(A:fW 41 J s=(r,0)):bf T P 41 J S/\bK S r (aH 41 J S):=by
 obtain⟨a,b,c,d,st,H,g,u,m,G⟩:=S;obtain⟨N,p,q,x,rfl,I,rfl⟩:=CT hf cc;have Q:=bF V;simp only at V Q;have W:(if 1<=(N:Int)/\(N:Int)<=s.length/\kH (s.getD ((N:Int)-1).toNat kG)=true then dX (s.getD ((N:Int)-1).toNat kG::s)else aM 5)=(r,0):=A;split at W
 ·rename_i O;obtain⟨E,C,D⟩:=O;cases W;rw[show((N:Int)-1).toNat=N-1 from by omega];have M:=M6 (l:=s) (i:=N-1) (d:=kG) bn;obtain⟨v,B,U⟩:=CS V M;have e:aH 41 [.mk 0 (N:Nat) p q x] ⟨a,b,c,d,st,H,g,u,m,G⟩=bp ⟨a,b,c,d,st,H,g,u,m,G⟩ [v]:=by
   unfold aH;rw[M1];show bp _ [lV st ((N:Int).toNat-1)]=_;rw[aaB,QG B]
  unfold bf;rw[e];exact⟨n9 _ _ 2 T 41 P _ [] st _ cc (by rw[M1];rfl) N2 (QH ⟨a,b,c,d,st,H,g,u,m,G⟩ T P N p q x [] v bn B (by have:=U.2;omega) N2),bX (S:=⟨a,b,c,d,st,H,g,u,m,G⟩) U.1 V⟩
 ·cases W
def OA(S:b9)(G:Int)(P:L UInt8)(J:L Nd)(Y s:L Ty)(r:L Ty×Bool)(hf:bJ 43 J=some Y)(V:dH s S.st)(Q:s.length<=340)(A:fW 43 J s=(r,0)):bf G P 43 J S/\bK S r (aH 43 J S):=by
 obtain⟨a,b,c,d,st,fr,g,u,m,said⟩:=S;obtain⟨N,p,q,x,rfl,M,rfl⟩:=CT hf cc;have T:=bF V;simp only at V T;have W:(if(N:Int)<s.length then dX (s.getD (N:Int).toNat kG::(s.take (N:Int).toNat++s.drop ((N:Int).toNat+1)))else aM 5)=(r,0):=A;split at W
 ·rename_i K;cases W;rw[aaB];have O:=M6 (l:=s) (i:=N) (d:=kG) bn;obtain⟨v,B,U⟩:=CS V O;have e:aH 43 [.mk 0 (N:Nat) p q x] ⟨a,b,c,d,st,fr,g,u,m,said⟩=(0,⟨a,b,c,d,v::(st.take N++st.drop (N+1)),fr,g,u,m,said⟩):=by
   unfold aH;rw[M4];show((0,{self:=a,gv:=b,gw:=c,balance:=d,st:=lV st (N:Int).toNat::(st.take (N:Int).toNat++st.drop ((N:Int).toNat+1)),fr:=fr,oC:=g,used:=u,bG:=m,said:=said}):MR)=_;rw[aaB,QG B]
  unfold bf;rw[e];exact⟨n9 _ _ 2 G 43 P _ [] st _ cc (by rw[M4];rfl) N2 (QJ ⟨a,b,c,d,st,fr,g,u,m,said⟩ G P N p q x [] v B N2),.inl ⟨Z,Z,⟨U,xT (zk N V) (zm (N+1) V)⟩,Z⟩⟩
 ·cases W
def OB(S:b9)(G:Int)(P:L UInt8)(J:L Nd)(Y s:L Ty)(r:L Ty×Bool)(hf:bJ 44 J=some Y)(V:dH s S.st)(B:s.length<=340)(A:fW 44 J s=(r,0)):bf G P 44 J S/\bK S r (aH 44 J S):=by
 obtain⟨a,b,c,d,st,fr,g,u,m,said⟩:=S;obtain⟨N,p,q,x,rfl,O,rfl⟩:=CT hf cc;have T:=bF V;simp only at V T;cases s with
 |nil=>cases A
 |cons t s =>
  obtain⟨v,st,rfl,U,hq⟩:=bh V;simp only[aac]at T B;have W:(if(N:Int)<s.length+1 then dX (s.take (N:Int).toNat++t::s.drop (N:Int).toNat)else aM 5)=(r,0):=A;split at W
  ·rename_i Q;cases W;rw[aaB];have e:aH 44 [.mk 0 (N:Nat) p q x] ⟨a,b,c,d,v::st,fr,g,u,m,said⟩=(0,⟨a,b,c,d,st.take N++v::st.drop N,fr,g,u,m,said⟩):=by
    unfold aH;rw[M5];show((0,{self:=a,gv:=b,gw:=c,balance:=d,st:=st.take (N:Int).toNat++v::st.drop (N:Int).toNat,fr:=fr,oC:=g,used:=u,bG:=m,said:=said}):MR)=_;rw[aaB]
   unfold bf;rw[e];exact⟨n9 _ _ 2 G 44 P _ [v] st _ cc (by rw[M5];rfl) (by show(v::st).length<=_;simp only[aac];omega) (QL ⟨a,b,c,d,st,fr,g,u,m,said⟩ G P N p q x v (by show N<=st.length;omega) N2),.inl ⟨Z,Z,xT (zk N hq) ⟨U,zm N hq⟩,Z⟩⟩
  ·cases W
def Lq(P:Int)(U:40<=P/\P<=44)(S:b9)(G:Int)(W:L UInt8)(J:L Nd)(Y s:L Ty)(r:L Ty×Bool)(hf:bJ P J=some Y)(V:dH s S.st)(B:s.length<=340)(A:fW P J s=(r,0)):bf G W P J S/\bK S r (aH P J S):=by
 rcases(show P=40\/P=41\/P=42\/P=43\/P=44 by omega)with rfl|rfl|rfl|rfl|rfl
 ·exact LD S G W J Y s r hf V B A
 ·exact Oz S G W J Y s r hf V B A
 ·exact LF S G W J Y s r hf V B A
 ·exact OA S G W J Y s r hf V B A
 ·exact OB S G W J Y s r hf V B A
def kQ{k n a:Int}{s:L UInt8}{J:L Vl}{Y:L Ty}{W:L Nd}{t:Ty}(h:bE (.mk k n a s J Y W) t=true):k=bM t/\cq (.mk k n a s J Y W)=true/\s.length<=200:=by
 unfold bE at h;by_cases S:k≠bM t\/cq (.mk k n a s J Y W)=false\/200<s.length
 ·simp_all
 refine⟨abf λV=>S (.inl V),?_,bn⟩;cases hq:cq (.mk k n a s J Y W)with
 |true=>rfl
 |false=>exact absurd (.inr (.inl hq)) S
def fy{v:Vl}{T:Int}{ts:L Ty}(N:T=2\/T=3\/T=4\/T=5\/T=7)(h:bE v (.mk T ts)=true):∃n,v=aL T n/\bE (aL T n) (.mk T ts)=true:=by
 obtain⟨k,n,a,s,J,Y,W⟩:=v;obtain⟨D,q,V⟩:=kQ h;simp only[bM]at D;subst D;have:J=[]/\a=0/\s=[]/\Y=[]/\W=[]:=by
  rcases N with rfl|rfl|rfl|rfl|rfl<;>simp[bE,cq]at h q<;>simp_all
 obtain⟨rfl,rfl,rfl,rfl,rfl⟩:=this;exact⟨n,Z,h⟩
def Ro{v:Vl}{ts:L Ty}(h:bE v (.mk 2 ts)=true):v=aL 2 0\/v=aL 2 1:=by
 obtain⟨n,rfl,h⟩:=fy (.inl rfl) h;have:0<=n/\n<=1:=by simpa[bE,cq,aL,bM]using h
 rcases(show n=0\/n=1 by omega)with rfl|rfl
 ·exact .inl Z
 ·exact .inr Z
def lT{T n:Int}{ts:L Ty}(h:(T=2/\0<=n/\n<=1)\/(T=3 /\ -bL<=n/\n<=bL)\/(T=4/\0<=n/\n<=bL)\/(T=5/\0<=n/\n<=bL)\/(T=7/\0<=n/\n<12)):bE (aL T n) (.mk T ts)=true/\eC (aL T n)=true:=by
 rcases h with ⟨rfl,h⟩|⟨rfl,h⟩|⟨rfl,h⟩|⟨rfl,h⟩|⟨rfl,h⟩
 all_goals simp[bE,cq,aL,bM,eC,eg,h]
def K2{T n:Int}{ts:L Ty}(h:bE (aL T n) (.mk T ts)=true):(T=2->0<=n/\n<=1)/\(T=3 -> -bL<=n/\n<=bL)/\(T=4->0<=n/\n<=bL)/\(T=5->0<=n/\n<=bL)/\(T=7->0<=n/\n<12):=by
 refine⟨?_,?_,?_,?_,?_⟩<;>(rintro rfl;simpa[bE,cq,aL,bM]using h)
def tV{v:Vl}{t u:Ty}(h:bE v (.mk 11 [t,u])=true)(V:eC v=true):∃x y,v=bt x y/\(bE x t=true/\eC x=true)/\(bE y u=true/\eC y=true):=by
 obtain⟨k,n,a,s,J,Y,W⟩:=v;obtain⟨D,q,_⟩:=kQ h;simp only[bM]at D;subst D;simp[cq]at q;simp[bE,cq,bM,aq]at h;obtain⟨rfl,rfl,rfl,rfl⟩:=q;rcases J with _|⟨x,_|⟨y,_|⟨z,r⟩⟩⟩
 ·simp at h
 ·simp at h
 ·simp[cV,eC,eg]at h V;exact⟨x,y,by rw[h.1];rfl,⟨h.2.1,V.1⟩,⟨h.2.2,V.2⟩⟩
 ·simp at h
def jR{x y:Vl}{t u:Ty}(h1:bE x t=true/\eC x=true)(h2:bE y u=true/\eC y=true):bE (bt x y) (.mk 11 [t,u])=true/\eC (bt x y)=true:=by
 simp[bt,bE,cq,bM,aq,cV,eC,eg,h1,h2]
def MF{v:Vl}{t:Ty}(h:bE v (.mk 9 [t])=true)(V:eC v=true):v=cw []\/∃x,v=cw [x]/\bE x t=true/\eC x=true:=by
 obtain⟨k,n,a,s,J,Y,W⟩:=v;obtain⟨D,q,_⟩:=kQ h;simp only[bM]at D;subst D;simp[cq]at q;simp[bE,cq,bM,aD,aq]at h;obtain⟨rfl,rfl,rfl,rfl⟩:=q;rcases J with _|⟨x,_|⟨y,r⟩⟩
 ·exact .inl (by simp at h;rw[h.1];rfl)
 ·simp[aP,eC,eg]at h V;exact .inr ⟨x,by rw[h.1];rfl,h.2,V⟩
 ·simp at h
def lU{t:Ty}:bE (cw []) (.mk 9 [t])=true/\eC (cw [])=true:=by simp[cw,bE,cq,bM,aP,eC,eg]
def hD{x:Vl}{t:Ty}(h:bE x t=true/\eC x=true):bE (cw [x]) (.mk 9 [t])=true/\eC (cw [x])=true:=by simp[cw,bE,cq,bM,aD,aq,aP,eC,eg,h]
def xQ{v:Vl}{t:Ty}(h:bE v (.mk 10 [t])=true)(V:eC v=true):∃l,v = .mk 10 0 0 [] l [] []/\l.length<=24/\aP l t=true/\eg l=true:=by
 obtain⟨k,n,a,s,J,Y,W⟩:=v;obtain⟨D,q,_⟩:=kQ h;simp only[bM]at D;subst D;simp[cq]at q;simp[bE,cq,bM,aD,aq]at h;obtain⟨rfl,rfl,rfl,rfl⟩:=q;simp[eC]at V;exact⟨J,by rw[h.2.1.1],h.2.1.2,h.2.2,V⟩
def CB{l:L Vl}{t:Ty}(B:l.length<=24)(h:aP l t=true)(V:eg l=true):bE (.mk 10 0 0 [] l [] []) (.mk 10 [t])=true/\eC (.mk 10 0 0 [] l [] [])=true:=by simp[bE,cq,bM,aD,aq,eC,h,V,B]
def VG{v:Vl}{t u:Ty}(h:bE v (.mk 12 [t,u])=true)(V:eC v=true):∃x,(v = .mk 12 0 0 [] [x] [] []/\bE x t=true\/v = .mk 12 1 0 [] [x] [] []/\bE x u=true)/\eC x=true:=by
 obtain⟨k,n,a,s,J,Y,W⟩:=v;obtain⟨D,q,_⟩:=kQ h;simp only[bM]at D;subst D;simp[cq]at q;simp[bE,cq,bM]at h;obtain⟨rfl,rfl,rfl,rfl⟩:=q;rcases J with _|⟨x,_|⟨y,r⟩⟩
 ·simp at h
 ·simp[aP,eC,eg]at h V;rcases(show n=0\/n=1 by omega)with rfl|rfl
  ·exact⟨x,.inl ⟨Z,by simpa[aD,aq]using h.2⟩,V⟩
  ·exact⟨x,.inr ⟨Z,by simpa[aD,aq]using h.2⟩,V⟩
 ·simp at h
def Tq{x:Vl}{t u:Ty}(h:bE x t=true/\eC x=true):bE (.mk 12 0 0 [] [x] [] []) (.mk 12 [t,u])=true/\eC (.mk 12 0 0 [] [x] [] [])=true:=by simp[bE,cq,bM,aD,aq,aP,eC,eg,h]
def Tr{x:Vl}{t u:Ty}(h:bE x u=true/\eC x=true):bE (.mk 12 1 0 [] [x] [] []) (.mk 12 [t,u])=true/\eC (.mk 12 1 0 [] [x] [] [])=true:=by simp[bE,cq,bM,aD,aq,aP,eC,eg,h]
end Go.Proofs
