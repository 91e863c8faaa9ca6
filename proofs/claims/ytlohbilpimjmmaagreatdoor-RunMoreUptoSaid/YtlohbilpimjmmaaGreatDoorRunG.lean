/- Methods of package run's machine that keep its blocks' names; the end of a frame. One step of package run's machine. -/
import Derived.Test.YtlohbilpimjmmaaGreatDoorRunE
set_option maxHeartbeats 0
set_option linter.unusedVariables false
set_option linter.unusedSimpArgs false
set_option maxRecDepth 100000
namespace Go.Proofs
open Go.cq
def wN (f:FuncId) (S:bT) (args:List AV) (r:CV) (S':bT):Prop :=
 rV f (mI (mC S) (bI (sR S.st)) (bI (fR S.fr))) (.ptr 1000000 0::args) (.c r) (mI (mC S') (bI (sR S'.st)) (bI (fR S'.fr)))
theorem OY {f:FuncId} {n:Nat} {β:jG} {K:List Item} {env:Env} {Y:Func} (hf:Tryz.prog.funcs[f]?=some Y) {bs:List (Nat×List AV)} {ts:List (Nat×Nat)} {us:List Nat} {l:List AV} (I:tg Tryz.X bs env Y.results.toList=some l)
  {v:CV} (V:close (BS l)=some v) {S':bT} {cells T W:List AV} (h1:ak 1000000 bs=some cells) (C:cells=mC S' 1000001 1000002) (h2:ak 1000001 bs=some T) (U:T=ah (sR S'.st)) (P:ak 1000002 bs=some W) (B:W=ah (fR S'.fr)) {r:CV} (S:v=r) :
  EK f n β (HR β (.c r) (mI (mC S') (bI (sR S'.st)) (bI (fR S'.fr)))) (.code .ret::K) env ⟨bs,ts,us⟩:=by
 subst C U B S;refine AK.Da (.inl ⟨_,rfl⟩) Tryz.hX hf I [(1000000,1000000),(1000001,1000001),(1000002,1000002)] rfl (.inr V) ⟨⟨_,_,rfl,h1,(DN S').conv _ _ _ _ _ _ rfl rfl⟩,⟨_,_,rfl,h2,dz _⟩,⟨_,_,rfl,P,dz _⟩,trivial⟩
theorem uMK {ops:Array Oper} {o:Oper} {rest:List Oper} {env:Env} {acc:List Fp} {Q:Env->St->List Fp->Prop} {bs:List (Nat×List AV)} {ts:List (Nat×Nat)} {us:List Nat} (O:cU ops.toList kn env o=some true) {f:FuncId} {args:Array Operand} {E:Array TypeId} (p:o.op = .call {callee := .value (.func f),args:=args,argTypes:=E})
  {S S':bT} {W:List AV} {r:CV} (hq:wN f S W r S') {d:Nat} (H:o.dst=some d)
  {l:List AV} (A:gG (aL Tryz.X env) args.toList=some l) {U:Nat} {u:List AV} (Y:l = .ptr U 0::u) {D G:Nat} {V T P:List AV} (h1:ak U bs=some V) (C:V=mC S D G) (h2:ak D bs=some T) (K:T=ah (sR S.st)) (N:ak G bs=some P) (B:P=ah (fR S.fr))
  (M:∀ts,fu ⟨fun k=>ak k [(1000000,U),(1000001,D),(1000002,G)],fun _=>none⟩ ts W u) (J:Go.cq.distinct [U,D,G]=true)
  {bs':List (Nat×List AV)} (I:lZ [U,D,G] bs=bs')
  (k:oH ops rest ((d,.c r)::env) ⟨(U,mC S' D G)::(D,ah (sR S'.st))::(G,ah (fR S'.fr))::bs',ts,U::D::G::us⟩ (⟨[],[U,D,G,U,D,G,U,D,G]⟩::acc) Q):oH ops (o::rest) env ⟨bs,ts,us⟩ acc Q:=by
 subst Y;exact ai.XR kn O p hq (DN S) (DN S') H A rfl h1 C h2 K N B (fun ts=>⟨_,_,rfl,⟨_,fe,rfl⟩,M ts⟩) J rfl rfl I k
theorem K4 {ops:Array Oper} {o:Oper} {rest:List Oper} {env:Env} {acc:List Fp} {Q:Env->St->List Fp->Prop} {bs:List (Nat×List AV)} {ts:List (Nat×Nat)} {us:List Nat} {f:FuncId} {args:Array Operand} {E:Array TypeId} {S S':bT} {W:List AV} {r:CV} {d:Nat} {l:List AV} {U:Nat} {u:List AV} {D G:Nat} {V T P:List AV} {bs':List (Nat×List AV)} (k:oH ops rest ((d,.c r)::env) ⟨(U,mC S' D G)::(D,ah (sR S'.st))::(G,ah (fR S'.fr))::bs',ts,U::D::G::us⟩ (⟨[],[U,D,G,U,D,G,U,D,G]⟩::acc) Q) (O:cU ops.toList kn env o=some true:=by exact rfl) (p:o.op = .call {callee := .value (.func f),args:=args,argTypes:=E}:=by exact rfl) (hq:wN f S W r S':=by assumption) (H:o.dst=some d:=by exact rfl) (A:gG (aL Tryz.X env) args.toList=some l:=by exact rfl) (Y:l = .ptr U 0::u:=by exact rfl) (h1:ak U bs=some V:=by exact rfl) (C:V=mC S D G:=by exact rfl) (h2:ak D bs=some T:=by exact rfl) (K:T=ah (sR S.st):=by exact rfl) (N:ak G bs=some P:=by exact rfl) (B:P=ah (fR S.fr):=by exact rfl) (M:∀ts,fu ⟨fun k=>ak k [(1000000,U),(1000001,D),(1000002,G)],fun _=>none⟩ ts W u:=by intro _;repeat' (first|exact rfl|refine cvA rfl ?_|refine cvP rfl ?_)) (J:Go.cq.distinct [U,D,G]=true:=by exact rfl) (I:lZ [U,D,G] bs=bs':=by exact rfl): oH ops (o::rest) env ⟨bs,ts,us⟩ acc Q:=uMK O p hq H A Y h1 C h2 K N B M J I k
theorem OZ (f:fO) (t:List fO):gr (0+t.length*4+1) (ah (fR (f::t)))=some [.c (aF (f.pos:Nat)),.c (aF f.fin),.c (.sl 7 (aa f.aside))]:=wC _ 1 _ _ _ (x8 f t) rfl
theorem uc (f:fO) (t:List fO):gr (0+t.length*4+2) (ah (fR (f::t)))=some [.c (aF f.fin),.c (.sl 7 (aa f.aside))]:=wC _ 2 _ _ _ (x8 f t) rfl
theorem El (f:fO) (t:List fO):gr (0+t.length*4+3) (ah (fR (f::t)))=some [.c (.sl 7 (aa f.aside))]:=wC _ 3 _ _ _ (x8 f t) rfl
theorem O0 (f:fO) (t:List fO):dK (0+t.length*4+1) [.c (aF 0)] (ah (fR (f::t)))=some (ah (fR ({f with pos:=0}::t))):=DS f t 0
attribute [local irreducible] AK ai bh bt dI dS lI
theorem O1 (S:bT) (h:S.gX<=S.used):wN 56 S [] (aF 12) S:=by
 have E:decide (S.used>=S.gX)=true:=aam h;refine dI.of Tryz.func56 rfl (fun args w=>Tryz.call56 args w) (Nat.le_of_ble_eq_true rfl) [(0,.ptr 1000000 0)] ⟨[(1000000,mC (S) 1000001 1000002),(1000001,ah (sR (S).st)),(1000002,ah (fR (S).fr))],[],[1000000,1000001,1000002]⟩ rfl rfl fun β=>?_;have hf:=Tryz.func56
 repeat' (first|refine nj ?_|(refine zc ?_ ?_<;>intro h<;>first|(cases h;done)|rw[h]|skip))
 exact Ya
theorem O2 (S:bT) (h:S.used<S.gX) (h1:OB S.gX) (h2:0<=S.used):wN 56 S [] (aF 0) {S with used:=S.used+1}:=by
 have E:decide (S.used>=S.gX)=false:=aan bn;have O:IntKind.i64.wrap (S.used+1)=S.used+1:=gW bn (by have:=h1.2;omega);refine dI.of Tryz.func56 rfl (fun args w=>Tryz.call56 args w) (Nat.le_of_ble_eq_true rfl) [(0,.ptr 1000000 0)] ⟨[(1000000,mC (S) 1000001 1000002),(1000001,ah (sR (S).st)),(1000002,ah (fR (S).fr))],[],[1000000,1000001,1000002]⟩ rfl rfl fun β=>?_;have hf:=Tryz.func56
 repeat' (first|refine nj ?_|(refine zc ?_ ?_<;>intro h<;>first|(cases h;done)|rw[h]|skip))
 rw[O];exact Ya
theorem TV (S:bT) (h:S.st=[]):wN 80 S [] (.gy [bM oL,.bool false]) S:=by
 obtain⟨a,b,c,d,st,fr,g,u,m,said⟩:=S;simp only at h;subst h;have E:decide (IntKind.i64.wrap (((([]:List Vl).length:Nat):Int)-1)<0)=true:=by decide
 refine dI.of Tryz.func80 rfl (fun args w=>Tryz.call80 args w) (Nat.le_of_ble_eq_true rfl) [(0,.ptr 1000000 0)] ⟨[(1000000,mC (bT.mk a b c d [] fr g u m said) 1000001 1000002),(1000001,ah (sR (bT.mk a b c d [] fr g u m said).st)),(1000002,ah (fR (bT.mk a b c d [] fr g u m said).fr))],[],[1000000,1000001,1000002]⟩ rfl rfl fun β=>?_;have hf:=Tryz.func80
 repeat' (first|refine nj ?_|(refine zc ?_ ?_<;>intro h<;>first|(cases h;done)|rw[h]|skip))
 exact Ya
theorem AQ (S:bT) (v:Vl) (t:List Vl) (h:S.st=v::t) (A:t.length<=1099511627776):wN 80 S [] (.gy [bM v,.bool true]) {S with st:=t}:=by
 obtain⟨a,b,c,d,st,fr,g,u,m,said⟩:=S;simp only at h;subst h;have O:IntKind.i64.wrap ((((v::t).length:Nat):Int)-1)=(t.length:Nat):=by
  rw[gW dZ dZ];simp only[aac];omega
 have E:decide (IntKind.i64.wrap ((((v::t).length:Nat):Int)-1)<0)=false:=by rw[O];exact aan bn
 obtain⟨k,n,C,s,args,B,H⟩:=v;have Y:=HG k n C s args B H t;refine dI.of Tryz.func80 rfl (fun args w=>Tryz.call80 args w) (Nat.le_of_ble_eq_true rfl) [(0,.ptr 1000000 0)] ⟨[(1000000,mC (bT.mk a b c d (.mk k n C s args B H::t) fr g u m said) 1000001 1000002),(1000001,ah (sR (bT.mk a b c d (.mk k n C s args B H::t) fr g u m said).st)),(1000002,ah (fR (bT.mk a b c d (.mk k n C s args B H::t) fr g u m said).fr))],[],[1000000,1000001,1000002]⟩ rfl rfl fun β=>?_;have hf:=Tryz.func80
 repeat' (first|refine nj ?_|(refine zc ?_ ?_<;>intro h<;>first|(cases h;done)|rw[h]|skip)|refine ai.jf Tryz.hX kn rfl rfl rfl rfl rfl rfl rfl rfl rfl t.length O (Nat.lt_succ_self _) ?_|refine ai.gE Tryz.hX kn rfl rfl rfl rfl rfl rfl Y rfl ?_|refine ai.Cc Tryz.hX kn rfl rfl rfl rfl rfl rfl rfl rfl rfl rfl rfl rfl t.length O (Nat.le_succ _) ?_)
 refine AK.vt 1000001 (ah (sR t)) _ rfl (DP _ _) rfl ?_;exact Ya
theorem QB {X:Go.cq.Ctx} {env:Env} {y:Operand} {z:Int} {u:IntKind} {h:Nat} (Y:aL X env y=some (.c (.int u z))) (W:z=h):bound (aL X env) (some y)=some (some h):=by subst W;simp only[bound,Y,asNat]
theorem yR (S:bT) (F:fO) (t:List fO) (h:S.fr=F::t) (U:F.fin=0) (A:t.length<=1099511627776):cC 54 S [.ptr 1000002 (0+t.length*4)] (aF 0) {S with fr:=t}:=by
 obtain⟨a,b,c,d,T,fr,g,u,m,said⟩:=S;obtain⟨H,C,fin,Y⟩:=F;simp only at h U;subst h U;have h2:=uc ⟨H,C,0,Y⟩ t;have O:IntKind.i64.wrap ((((fO.mk H C 0 Y::t).length:Nat):Int)-1)=(t.length:Nat):=by
  rw[gW dZ dZ];simp only[aac];omega
 refine mn Tryz.func54 Tryz.call54 fun β hf=>?_
 repeat' ((fail_if_success (refine kM 28 ?_));first|refine nj ?_|(refine zc ?_ ?_<;>intro h<;>first|(cases h;done)|rw[h]|skip)|refine AK.skip ?_|refine AK.seq ?_|refine AK.block ?_|refine AK.exit rfl ?_|refine ai.gE Tryz.hX kn rfl rfl rfl rfl rfl rfl h2 rfl ?_|refine ai.sliceB Tryz.hX kn rfl rfl rfl rfl rfl rfl rfl rfl (l:=none) (h:=some t.length) rfl (QB rfl O) (Nat.le_succ _) (Nat.zero_le _) ?_|(refine uA rfl ?_ ?_<;>(try (show(_:Nat)*_<=_;dsimp only))))
 refine AK.vt 1000002 (cells:=ah (fR (⟨H,C,0,Y⟩::t))) (ah (fR t)) (ah [rH ⟨H,C,0,Y⟩]) rfl (lS _ _) rfl ?_;exact dm
theorem Nw (a b c d:Int) (T:List Vl) (g u m:Int) (said:Vl) (H:List Nd) (C:Nat) (Y:List Vl) (t:List fO) (U:T.length<=500000000) (S:Y.length<=500000000) (A:t.length<=1099511627776):cC 54 ⟨a,b,c,d,T,⟨H,C,1,Y⟩::t,g,u,m,said⟩ [.ptr 1000002 (0+t.length*4)] (aF 0) ⟨a,b,c,d,Y.reverse++T,t,g,u,m,said⟩:=by
 have h2:=uc ⟨H,C,1,Y⟩ t;have V:=El ⟨H,C,1,Y⟩ t;have O:IntKind.i64.wrap (((((⟨H,C,1,Y⟩:fO)::t).length:Nat):Int)-1)=(t.length:Nat):=by
  rw[gW dZ dZ];simp only[aac];omega
 have W:sR T++aa Y=sR (Y.reverse++T):=by rw[sR,sR,List.reverse_append,List.reverse_reverse,kF]
 have G:((sR T).length+(aa Y).length)*112<=140737488355328:=by rw[iS,az];omega
 refine mn Tryz.func54 Tryz.call54 fun β hf=>?_
 repeat' ((fail_if_success (refine kM 28 ?_));first|refine nj ?_|(refine zc ?_ ?_<;>intro h<;>first|(cases h;done)|rw[h]|skip)|refine AK.skip ?_|refine AK.seq ?_|refine AK.block ?_|refine AK.exit rfl ?_|refine ai.gE Tryz.hX kn rfl rfl rfl rfl rfl rfl h2 rfl ?_|refine ai.gE Tryz.hX kn rfl rfl rfl rfl rfl rfl V rfl ?_|refine ai.mL Tryz.hX kn rfl rfl rfl rfl rfl rfl rfl rfl rfl rfl rfl rfl rfl rfl rfl (sR T) [] (List.append_nil _).symm (iS _).symm (td _) rfl rfl rfl rfl rfl rfl rfl G W (m:=(Y.reverse++T).length) (iS _) rfl ?_|refine ai.sliceB Tryz.hX kn rfl rfl rfl rfl rfl rfl rfl rfl (l:=none) (h:=some t.length) rfl (QB rfl O) (Nat.le_succ _) (Nat.zero_le _) ?_|(refine uA rfl ?_ ?_<;>(try (show(_:Nat)*_<=_;dsimp only))))
 refine AK.vt 1000002 (cells:=ah (fR (⟨H,C,1,Y⟩::t))) (ah (fR t)) (ah [rH ⟨H,C,1,Y⟩]) rfl (lS _ _) rfl ?_;exact dm
theorem Ih (a b c d:Int) (T:List Vl) (g u m:Int) (said:Vl) (H:List Nd) (C:Nat) (Y:List Vl) (t:List fO) (A:t.length<=1099511627776):cC 54 ⟨a,b,c,d,[],⟨H,C,2,Y⟩::t,g,u,m,said⟩ [.ptr 1000002 (0+t.length*4)] (aF 14) ⟨a,b,c,d,[],⟨H,C,2,Y⟩::t,g,u,m,said⟩:=by
 have h2:=uc ⟨H,C,2,Y⟩ t;have V:=El ⟨H,C,2,Y⟩ t;have O:IntKind.i64.wrap (((((⟨H,C,2,Y⟩:fO)::t).length:Nat):Int)-1)=(t.length:Nat):=by
  rw[gW dZ dZ];simp only[aac];omega
 refine mn Tryz.func54 Tryz.call54 fun β hf=>?_
 repeat' (first|refine nj ?_|(refine zc ?_ ?_<;>intro h<;>first|(cases h;done)|rw[h]|skip)|refine AK.skip ?_|refine AK.seq ?_|refine AK.block ?_|refine AK.exit rfl ?_|refine ai.gE Tryz.hX kn rfl rfl rfl rfl rfl rfl h2 rfl ?_|(refine uA rfl ?_ ?_<;>(try (show(_:Nat)*_<=_;dsimp only))))
 all_goals rfl
theorem Ii (a b c d:Int) (v:Vl) (T:List Vl) (g u m:Int) (said:Vl) (H:List Nd) (C:Nat) (t:List fO) (G:T.length<=500000000) (A:t.length<=1099511627776):cC 54 ⟨a,b,c,d,v::T,⟨H,C,2,[]⟩::t,g,u,m,said⟩ [.ptr 1000002 (0+t.length*4)] (aF 0) ⟨a,b,c,d,[v],t,g,u,m,said⟩:=by
 have h2:=uc ⟨H,C,2,[]⟩ t;have V:=El ⟨H,C,2,[]⟩ t;have O:IntKind.i64.wrap (((((⟨H,C,2,[]⟩:fO)::t).length:Nat):Int)-1)=(t.length:Nat):=by
  rw[gW dZ dZ];simp only[aac];omega
 have Y:IntKind.i64.wrap ((((T.length+1:Nat)):Int)-1)=(T.length:Nat):=by rw[gW bn bn];omega
 have I:((((T.length+1:Nat)):Int)==0)=false:=beq_eq_false_iff_ne.2 bn;obtain⟨D,K,U,S,W,Q,P⟩:=v;have N:=HG D K U S W Q P T;refine mn Tryz.func54 Tryz.call54 fun β hf=>?_
 repeat' ((fail_if_success (refine kM 28 ?_));first|refine nj ?_|(refine zc ?_ ?_<;>intro h<;>first|(cases h;done)|rw[h]|skip)|refine AK.skip ?_|refine AK.seq ?_|refine AK.block ?_|refine AK.exit rfl ?_|refine ai.gE Tryz.hX kn rfl rfl rfl rfl rfl rfl h2 rfl ?_|refine ai.jf Tryz.hX kn rfl rfl rfl rfl rfl rfl rfl rfl rfl T.length Y (Nat.lt_succ_self _) ?_|refine ai.gE Tryz.hX kn rfl rfl rfl rfl rfl rfl N rfl ?_|refine ai.gE Tryz.hX kn rfl rfl rfl rfl rfl rfl V rfl ?_|refine ai.xL kn rfl rfl (jy 7) rfl rfl (fun _=>⟨_,_,rfl,.inr rfl,rfl⟩) rfl rfl ?_|refine ai.vW Tryz.hX kn rfl rfl rfl rfl rfl rfl rfl rfl rfl rfl rfl rfl rfl rfl rfl rfl rfl rfl (fun h=>by cases h) rfl rfl rfl (show(0+1)*112<=140737488355328 by decide) rfl (m:=1) rfl ?_|refine ai.sliceB Tryz.hX kn rfl rfl rfl rfl rfl rfl rfl rfl (l:=none) (h:=some t.length) rfl (QB rfl O) (Nat.le_succ _) (Nat.zero_le _) ?_|(refine uA rfl ?_ ?_<;>(try (show(_:Nat)*_<=_;dsimp only))))
 refine AK.vt 1000002 (cells:=ah (fR (⟨H,C,2,[]⟩::t))) (ah (fR t)) (ah [rH ⟨H,C,2,[]⟩]) rfl (lS _ _) rfl ?_;exact dm
theorem Ij (a b c d:Int) (v:Vl) (T:List Vl) (g u m:Int) (said:Vl) (H:List Nd) (C:Nat) (x:Vl) (q:List Vl) (t:List fO) (I:T.length<=500000000) (E:q.length<=500000000) (A:t.length<=1099511627776):cC 54 ⟨a,b,c,d,v::T,⟨H,C,2,(x::q)⟩::t,g,u,m,said⟩ [.ptr 1000002 (0+t.length*4)] (aF 0) ⟨a,b,c,d,v::(x::q).reverse,t,g,u,m,said⟩:=by
 have h2:=uc ⟨H,C,2,(x::q)⟩ t;have O:=El ⟨H,C,2,(x::q)⟩ t;have N:IntKind.i64.wrap (((((⟨H,C,2,(x::q)⟩:fO)::t).length:Nat):Int)-1)=(t.length:Nat):=by
  rw[gW dZ dZ];simp only[aac];omega
 have M:IntKind.i64.wrap ((((T.length+1:Nat)):Int)-1)=(T.length:Nat):=by rw[gW bn bn];omega
 have B:((((T.length+1:Nat)):Int)==0)=false:=beq_eq_false_iff_ne.2 bn;obtain⟨D,K,Y,V,W,U,Q⟩:=v;have J:=HG D K Y V W U Q T;have p:=fh x q bn;have S:aa (x::q)++aa [.mk D K Y V W U Q]=sR (.mk D K Y V W U Q::(x::q).reverse):=by rw[sR,List.reverse_cons,List.reverse_reverse,kF]
 have P:(bI (aa (x::q))).length=(q.length+1)*7:=by rw[dh (rows:=aa (x::q)) (s:=7) (gd _),az];rfl
 have G:((aa (x::q)).length+1)*112<=140737488355328:=by rw[az,aac];omega
 refine mn Tryz.func54 Tryz.call54 fun β hf=>?_
 repeat' ((fail_if_success (refine kM 28 ?_));first|refine nj ?_|(refine zc ?_ ?_<;>intro h<;>first|(cases h;done)|rw[h]|skip)|refine AK.skip ?_|refine AK.seq ?_|refine AK.block ?_|refine AK.exit rfl ?_|refine ai.gE Tryz.hX kn rfl rfl rfl rfl rfl rfl h2 rfl ?_|refine ai.jf Tryz.hX kn rfl rfl rfl rfl rfl rfl rfl rfl rfl T.length M (Nat.lt_succ_self _) ?_|refine ai.gE Tryz.hX kn rfl rfl rfl rfl rfl rfl J rfl ?_|refine ai.gE Tryz.hX kn rfl rfl rfl rfl rfl rfl O rfl ?_|refine ai.lG kn rfl rfl rfl rfl rfl rfl p rfl ?_|refine ai.mL Tryz.hX kn rfl rfl rfl rfl rfl rfl rfl rfl rfl rfl rfl rfl rfl rfl rfl (aa (x::q)) [] (List.append_nil _).symm (az (x::q)).symm P rfl rfl rfl rfl rfl rfl rfl G S (m:=(Vl.mk D K Y V W U Q::(x::q).reverse).length) (iS _) rfl ?_|refine ai.sliceB Tryz.hX kn rfl rfl rfl rfl rfl rfl rfl rfl (l:=none) (h:=some t.length) rfl (QB rfl N) (Nat.le_succ _) (Nat.zero_le _) ?_|(refine uA rfl ?_ ?_<;>(try (show(_:Nat)*_<=_;dsimp only))))
 refine AK.vt 1000002 (cells:=ah (fR (⟨H,C,2,(x::q)⟩::t))) (ah (fR t)) (ah [rH ⟨H,C,2,(x::q)⟩]) rfl (lS _ _) rfl ?_;exact dm
theorem Ik (a b c d:Int) (T:List Vl) (g u m:Int) (said:Vl) (H:List Nd) (C:Nat) (t:List fO) (A:t.length<=1099511627776):cC 54 ⟨a,b,c,d,T,⟨H,C,3,[]⟩::t,g,u,m,said⟩ [.ptr 1000002 (0+t.length*4)] (aF 0) ⟨a,b,c,d,T,t,g,u,m,said⟩:=by
 have h2:=uc ⟨H,C,3,[]⟩ t;have V:=El ⟨H,C,3,[]⟩ t;have O:IntKind.i64.wrap (((((⟨H,C,3,[]⟩:fO)::t).length:Nat):Int)-1)=(t.length:Nat):=by
  rw[gW dZ dZ];simp only[aac];omega
 refine mn Tryz.func54 Tryz.call54 fun β hf=>?_
 repeat' ((fail_if_success (refine kM 28 ?_));first|refine nj ?_|(refine zc ?_ ?_<;>intro h<;>first|(cases h;done)|rw[h]|skip)|refine AK.skip ?_|refine AK.seq ?_|refine AK.block ?_|refine AK.exit rfl ?_|refine ai.gE Tryz.hX kn rfl rfl rfl rfl rfl rfl h2 rfl ?_|refine ai.gE Tryz.hX kn rfl rfl rfl rfl rfl rfl V rfl ?_|refine ai.sliceB Tryz.hX kn rfl rfl rfl rfl rfl rfl rfl rfl (l:=none) (h:=some t.length) rfl (QB rfl O) (Nat.le_succ _) (Nat.zero_le _) ?_|(refine uA rfl ?_ ?_<;>(try (show(_:Nat)*_<=_;dsimp only))))
 refine AK.vt 1000002 (cells:=ah (fR (⟨H,C,3,[]⟩::t))) (ah (fR t)) (ah [rH ⟨H,C,3,[]⟩]) rfl (lS _ _) rfl ?_;exact dm
theorem Il (a b c d:Int) (T:List Vl) (g u m:Int) (said:Vl) (H:List Nd) (C:Nat) (x:Vl) (q:List Vl) (t:List fO) (E:g<=u) (p:t.length<=1099511627776):cC 54 ⟨a,b,c,d,T,⟨H,C,3,x::q⟩::t,g,u,m,said⟩ [.ptr 1000002 (0+t.length*4)] (aF 12) ⟨a,b,c,d,T,⟨H,C,3,x::q⟩::t,g,u,m,said⟩:=by
 have h2:=uc ⟨H,C,3,x::q⟩ t;have V:=El ⟨H,C,3,x::q⟩ t;have O:IntKind.i64.wrap (((((⟨H,C,3,x::q⟩:fO)::t).length:Nat):Int)-1)=(t.length:Nat):=by
  rw[gW dZ dZ];simp only[aac];omega
 have A:=O1 ⟨a,b,c,d,T,⟨H,C,3,x::q⟩::t,g,u,m,said⟩ E;have K:decide ((((aa (x::q)).length:Nat):Int)>0)=true:=aam (by rw[az,aac];omega);refine mn Tryz.func54 Tryz.call54 fun β hf=>?_
 repeat' (first|refine nj ?_|(refine zc ?_ ?_<;>intro h<;>first|(cases h;done)|rw[h]|skip)|refine AK.skip ?_|refine AK.seq ?_|refine AK.block ?_|refine AK.exit rfl ?_|refine ai.gE Tryz.hX kn rfl rfl rfl rfl rfl rfl h2 rfl ?_|refine ai.gE Tryz.hX kn rfl rfl rfl rfl rfl rfl V rfl ?_|refine K4 ?_ (hq:=A)|(refine uA rfl ?_ ?_<;>(try (show(_:Nat)*_<=_;dsimp only))))
 all_goals rfl
theorem Im (a b c d:Int) (T:List Vl) (g u m:Int) (said:Vl) (H:List Nd) (C:Nat) (x:Vl) (q:List Vl) (t:List fO) (E:u<g) (I:OB g) (A:0<=u) (J:T.length<=500000000) (p:t.length<=1099511627776):cC 54 ⟨a,b,c,d,T,⟨H,C,3,x::q⟩::t,g,u,m,said⟩ [.ptr 1000002 (0+t.length*4)] (aF 0) ⟨a,b,c,d,x::T,⟨H,0,3,q⟩::t,g,u+1,m,said⟩:=by
 have h2:=uc ⟨H,C,3,x::q⟩ t;have O:=El ⟨H,C,3,x::q⟩ t;have B:IntKind.i64.wrap (((((⟨H,C,3,x::q⟩:fO)::t).length:Nat):Int)-1)=(t.length:Nat):=by
  rw[gW dZ dZ];simp only[aac];omega
 have N:=O2 ⟨a,b,c,d,T,⟨H,C,3,x::q⟩::t,g,u,m,said⟩ E I A;have hc:decide ((((aa (x::q)).length:Nat):Int)>0)=true:=aam (by rw[az,aac];omega);obtain⟨D,K,U,S,W,Q,P⟩:=x;have M:=MB D K U S W Q P T;have G:((sR T).length+1)*112<=140737488355328:=by rw[iS];omega
 have Y:=Tn ⟨H,C,3,.mk D K U S W Q P::q⟩ t q;have V:=O0 ⟨H,C,3,q⟩ t;refine mn Tryz.func54 Tryz.call54 fun β hf=>?_
 repeat' (first|refine nj ?_|(refine zc ?_ ?_<;>intro h<;>first|(cases h;done)|rw[h]|skip)|refine AK.skip ?_|refine AK.seq ?_|refine AK.block ?_|refine AK.exit rfl ?_|refine ai.gE Tryz.hX kn rfl rfl rfl rfl rfl rfl h2 rfl ?_|refine ai.gE Tryz.hX kn rfl rfl rfl rfl rfl rfl O rfl ?_|refine K4 ?_ (hq:=N)|refine uI rfl (0) rfl (rfl) rfl ?_|refine ai.mL Tryz.hX kn rfl rfl rfl rfl rfl rfl rfl rfl rfl rfl rfl rfl rfl rfl rfl (sR T) [] (List.append_nil _).symm (iS _).symm (td _) rfl rfl rfl rfl rfl rfl rfl G rfl (m:=T.length+1) (by rw[aas,iS];rfl) rfl ?_|refine ai.jf Tryz.hX kn rfl rfl rfl rfl rfl rfl rfl rfl rfl T.length rfl (Nat.lt_succ_self _) ?_|refine ai.store Tryz.hX kn rfl rfl rfl rfl rfl rfl rfl rfl rfl (M _ rfl) rfl ?_|refine ai.sliceFrom Tryz.hX kn rfl rfl rfl rfl rfl rfl rfl rfl (m:=1) rfl (Nat.succ_le_succ (Nat.zero_le _)) ?_|refine ai.store Tryz.hX kn rfl rfl rfl rfl rfl rfl rfl rfl rfl Y rfl ?_|refine ai.store Tryz.hX kn rfl rfl rfl rfl rfl rfl rfl rfl rfl V rfl ?_|(refine uA rfl ?_ ?_<;>(try (show(_:Nat)*_<=_;dsimp only))))
 all_goals rfl
theorem Io (a b c d:Int) (T:List Vl) (g u m:Int) (said:Vl) (H:List Nd) (C:Nat) (Y:List Vl) (t:List fO) (G:T.length<=500000000) (p:t.length<=1099511627776):cC 54 ⟨a,b,c,d,[],⟨H,C,4,Y⟩::t,g,u,m,said⟩ [.ptr 1000002 (0+t.length*4)] (aF 14) ⟨a,b,c,d,[],⟨H,C,4,Y⟩::t,g,u,m,said⟩:=by
 have h2:=uc ⟨H,C,4,Y⟩ t;have O:IntKind.i64.wrap (((((⟨H,C,4,Y⟩:fO)::t).length:Nat):Int)-1)=(t.length:Nat):=by
  rw[gW dZ dZ];simp only[aac];omega
 have A:=TV ⟨a,b,c,d,[],⟨H,C,4,Y⟩::t,g,u,m,said⟩ rfl;refine mn Tryz.func54 Tryz.call54 fun β hf=>?_
 repeat' (first|refine nj ?_|(refine zc ?_ ?_<;>intro h<;>first|(cases h;done)|rw[h]|skip)|refine AK.skip ?_|refine AK.seq ?_|refine AK.block ?_|refine AK.exit rfl ?_|refine ai.gE Tryz.hX kn rfl rfl rfl rfl rfl rfl h2 rfl ?_|refine K4 ?_ (hq:=A)|(refine uA rfl ?_ ?_<;>(try (show(_:Nat)*_<=_;dsimp only))))
 all_goals rfl
theorem Ir (a b c d:Int) (D K V:Int) (U:List UInt8) (W:List Vl) (S:List Ty) (Q:List Nd) (P:¬K=1) (T:List Vl) (g u m:Int) (said:Vl) (H:List Nd) (C:Nat) (Y:List Vl) (t:List fO) (G:T.length<=500000000) (p:t.length<=1099511627776):cC 54 ⟨a,b,c,d,.mk D K V U W S Q::T,⟨H,C,4,Y⟩::t,g,u,m,said⟩ [.ptr 1000002 (0+t.length*4)] (aF 0) ⟨a,b,c,d,T,t,g,u,m,said⟩:=by
 have h2:=uc ⟨H,C,4,Y⟩ t;have O:IntKind.i64.wrap (((((⟨H,C,4,Y⟩:fO)::t).length:Nat):Int)-1)=(t.length:Nat):=by
  rw[gW dZ dZ];simp only[aac];omega
 have A:=AQ ⟨a,b,c,d,.mk D K V U W S Q::T,⟨H,C,4,Y⟩::t,g,u,m,said⟩ (.mk D K V U W S Q) T rfl bn;have E:(K==1)=false:=beq_eq_false_iff_ne.2 P;refine mn Tryz.func54 Tryz.call54 fun β hf=>?_
 repeat' ((fail_if_success (refine kM 28 ?_));first|refine nj ?_|(refine zc ?_ ?_<;>intro h<;>first|(cases h;done)|rw[h]|skip)|refine AK.skip ?_|refine AK.seq ?_|refine AK.block ?_|refine AK.exit rfl ?_|refine ai.gE Tryz.hX kn rfl rfl rfl rfl rfl rfl h2 rfl ?_|refine K4 ?_ (hq:=A)|refine ai.sliceB Tryz.hX kn rfl rfl rfl rfl rfl rfl rfl rfl (l:=none) (h:=some t.length) rfl (QB rfl O) (Nat.le_succ _) (Nat.zero_le _) ?_|(refine uA rfl ?_ ?_<;>(try (show(_:Nat)*_<=_;dsimp only))))
 refine AK.vt 1000002 (cells:=ah (fR (⟨H,C,4,Y⟩::t))) (ah (fR t)) (ah [rH ⟨H,C,4,Y⟩]) rfl (lS _ _) rfl ?_;exact dm
theorem Ip (a b c d:Int) (D V:Int) (U:List UInt8) (W:List Vl) (S:List Ty) (Q:List Nd) (T:List Vl) (g u m:Int) (said:Vl) (H:List Nd) (C:Nat) (Y:List Vl) (t:List fO) (E:g<=u) (G:T.length<=500000000) (p:t.length<=1099511627776):cC 54 ⟨a,b,c,d,.mk D 1 V U W S Q::T,⟨H,C,4,Y⟩::t,g,u,m,said⟩ [.ptr 1000002 (0+t.length*4)] (aF 12) ⟨a,b,c,d,T,⟨H,C,4,Y⟩::t,g,u,m,said⟩:=by
 have h2:=uc ⟨H,C,4,Y⟩ t;have O:IntKind.i64.wrap (((((⟨H,C,4,Y⟩:fO)::t).length:Nat):Int)-1)=(t.length:Nat):=by
  rw[gW dZ dZ];simp only[aac];omega
 have A:=AQ ⟨a,b,c,d,.mk D 1 V U W S Q::T,⟨H,C,4,Y⟩::t,g,u,m,said⟩ (.mk D 1 V U W S Q) T rfl bn;have hq:=O1 ⟨a,b,c,d,T,⟨H,C,4,Y⟩::t,g,u,m,said⟩ E;refine mn Tryz.func54 Tryz.call54 fun β hf=>?_
 repeat' (first|refine nj ?_|(refine zc ?_ ?_<;>intro h<;>first|(cases h;done)|rw[h]|skip)|refine AK.skip ?_|refine AK.seq ?_|refine AK.block ?_|refine AK.exit rfl ?_|refine ai.gE Tryz.hX kn rfl rfl rfl rfl rfl rfl h2 rfl ?_|refine K4 ?_ (hq:=A)|refine K4 ?_ (hq:=hq)|(refine uA rfl ?_ ?_<;>(try (show(_:Nat)*_<=_;dsimp only))))
 all_goals rfl
theorem Iq (a b c d:Int) (D V:Int) (U:List UInt8) (W:List Vl) (S:List Ty) (Q:List Nd) (T:List Vl) (g u m:Int) (said:Vl) (H:List Nd) (C:Nat) (Y:List Vl) (t:List fO) (E:u<g) (I:OB g) (A:0<=u) (G:T.length<=500000000) (p:t.length<=1099511627776):cC 54 ⟨a,b,c,d,.mk D 1 V U W S Q::T,⟨H,C,4,Y⟩::t,g,u,m,said⟩ [.ptr 1000002 (0+t.length*4)] (aF 0) ⟨a,b,c,d,T,⟨H,0,4,Y⟩::t,g,u+1,m,said⟩:=by
 have h2:=uc ⟨H,C,4,Y⟩ t;have N:IntKind.i64.wrap (((((⟨H,C,4,Y⟩:fO)::t).length:Nat):Int)-1)=(t.length:Nat):=by
  rw[gW dZ dZ];simp only[aac];omega
 have O:=AQ ⟨a,b,c,d,.mk D 1 V U W S Q::T,⟨H,C,4,Y⟩::t,g,u,m,said⟩ (.mk D 1 V U W S Q) T rfl bn;have hq:=O2 ⟨a,b,c,d,T,⟨H,C,4,Y⟩::t,g,u,m,said⟩ E I A;have P:=O0 ⟨H,C,4,Y⟩ t;refine mn Tryz.func54 Tryz.call54 fun β hf=>?_
 repeat' (first|refine nj ?_|(refine zc ?_ ?_<;>intro h<;>first|(cases h;done)|rw[h]|skip)|refine AK.skip ?_|refine AK.seq ?_|refine AK.block ?_|refine AK.exit rfl ?_|refine ai.gE Tryz.hX kn rfl rfl rfl rfl rfl rfl h2 rfl ?_|refine K4 ?_ (hq:=O)|refine K4 ?_ (hq:=hq)|refine ai.store Tryz.hX kn rfl rfl rfl rfl rfl rfl rfl rfl rfl P rfl ?_|(refine uA rfl ?_ ?_<;>(try (show(_:Nat)*_<=_;dsimp only))))
 all_goals rfl
end Go.Proofs
namespace Go.Proofs
open Go.cq
theorem adg (q J H:Prop) [Decidable q] [Decidable J] [Decidable H]:(if q then 0 else if J then 2 else if H then 3 else 1:Nat)<=3:=by
 by_cases h1:q
 ·rw[if_pos h1];omega
 rw[if_neg h1];by_cases h2:J
 ·rw[if_pos h2];omega
 rw[if_neg h2];by_cases V:H
 ·rw[if_pos V];omega
 ·rw[if_neg V];omega
theorem nL (p:Int):bO p<=3:=by unfold bO;exact adg _ _ _
theorem nM {S:bT} {n:Nat} {l r:List Vl} (Y:n<=3) (A:S.st.length<=1099511627776) (h:gb n S.st=some (l,r)):cC 81 S [.c (aF (n:Nat))] (.gy [.sl 7 (aa l),.bool true]) {S with st:=r}:=by
 have h1:=ME S n Y A;rw[h]at h1;exact h1
attribute [local irreducible] AK ai bh bt dI dS lI bO
theorem o9 (S S':bT) (kind N P:Int) (s:List UInt8) (args:List Nd) (l r:List Vl) (e:Int) (C:P=40\/P=41\/P=42\/P=43\/P=44) (M:gb (bO P) S.st=some (l,r)) (A:S.st.length<=1099511627776) (Y:cC 83 {S with st:=r} [.c (aX (.mk kind N P s args)),.c (.sl 7 (aa l))] (aF e) S'):cC 57 S [.c (aX (.mk kind N P s args))] (aF e) S':=by
 have O:=kG P bn;have h1:=nM (nL P) A M;generalize bO P=w at *;clear M;rcases C with rfl|rfl|rfl|rfl|rfl <;>
 ((refine mn Tryz.func57 Tryz.call57 fun β hf=>?_);(repeat' (first|refine nj ?_|(refine zc ?_ ?_<;>intro h<;>first|(cases h;done)|rw[h]|skip)|refine uC rfl O ?_|refine tc ?_ (hq:=h1)|refine tc ?_ (hq:=Y)|((first|refine zt ?_|refine zu ?_ ?_)<;>intro h<;>(fail_if_success (cases h;done))<;>rw[h])));(all_goals rfl))
theorem iV (S S':bT) (kind N P:Int) (s:List UInt8) (args:List Nd) (l r:List Vl) (e:Int) (C:P=45\/P=46\/P=47\/P=48\/P=49\/P=50\/P=51\/P=53\/P=54\/P=56) (M:gb (bO P) S.st=some (l,r)) (A:S.st.length<=1099511627776) (Y:cC 84 {S with st:=r} [.c (aX (.mk kind N P s args)),.c (.sl 7 (aa l))] (aF e) S'):cC 57 S [.c (aX (.mk kind N P s args))] (aF e) S':=by
 have O:=kG P bn;have h1:=nM (nL P) A M;generalize bO P=w at *;clear M;rcases C with rfl|rfl|rfl|rfl|rfl|rfl|rfl|rfl|rfl|rfl <;>
 ((refine mn Tryz.func57 Tryz.call57 fun β hf=>?_);(repeat' (first|refine nj ?_|(refine zc ?_ ?_<;>intro h<;>first|(cases h;done)|rw[h]|skip)|refine uC rfl O ?_|refine tc ?_ (hq:=h1)|refine tc ?_ (hq:=Y)|((first|refine zt ?_|refine zu ?_ ?_)<;>intro h<;>(fail_if_success (cases h;done))<;>rw[h])));(all_goals rfl))
theorem fz (S S':bT) (kind N P:Int) (s:List UInt8) (args:List Nd) (l r:List Vl) (e:Int) (C:P=52\/P=55\/P=58\/P=60\/P=64\/P=65\/P=66\/P=67\/P=68) (M:gb (bO P) S.st=some (l,r)) (A:S.st.length<=1099511627776) (Y:cC 85 {S with st:=r} [.c (aX (.mk kind N P s args)),.c (.sl 7 (aa l))] (aF e) S'):cC 57 S [.c (aX (.mk kind N P s args))] (aF e) S':=by
 have O:=kG P bn;have h1:=nM (nL P) A M;generalize bO P=w at *;clear M;rcases C with rfl|rfl|rfl|rfl|rfl|rfl|rfl|rfl|rfl <;>
 ((refine mn Tryz.func57 Tryz.call57 fun β hf=>?_);(repeat' (first|refine nj ?_|(refine zc ?_ ?_<;>intro h<;>first|(cases h;done)|rw[h]|skip)|refine uC rfl O ?_|refine tc ?_ (hq:=h1)|refine tc ?_ (hq:=Y)|((first|refine zt ?_|refine zu ?_ ?_)<;>intro h<;>(fail_if_success (cases h;done))<;>rw[h])));(all_goals rfl))
theorem qm (S S':bT) (kind N P:Int) (s:List UInt8) (args:List Nd) (l r:List Vl) (e:Int) (C:P=57\/P=59\/P=61\/P=62\/P=63) (M:gb (bO P) S.st=some (l,r)) (A:S.st.length<=1099511627776) (Y:cC 86 {S with st:=r} [.c (aX (.mk kind N P s args)),.c (.sl 7 (aa l))] (aF e) S'):cC 57 S [.c (aX (.mk kind N P s args))] (aF e) S':=by
 have O:=kG P bn;have h1:=nM (nL P) A M;generalize bO P=w at *;clear M;rcases C with rfl|rfl|rfl|rfl|rfl <;>
 ((refine mn Tryz.func57 Tryz.call57 fun β hf=>?_);(repeat' (first|refine nj ?_|(refine zc ?_ ?_<;>intro h<;>first|(cases h;done)|rw[h]|skip)|refine uC rfl O ?_|refine tc ?_ (hq:=h1)|refine tc ?_ (hq:=Y)|((first|refine zt ?_|refine zu ?_ ?_)<;>intro h<;>(fail_if_success (cases h;done))<;>rw[h])));(all_goals rfl))
theorem dQ (S S':bT) (kind N P:Int) (s:List UInt8) (args:List Nd) (l r:List Vl) (e:Int) (C:P=69\/P=70\/P=71\/P=72\/P=93\/P=94\/P=95) (M:gb (bO P) S.st=some (l,r)) (A:S.st.length<=1099511627776) (Y:cC 87 {S with st:=r} [.c (aF P),.c (.sl 7 (aa l))] (aF e) S'):cC 57 S [.c (aX (.mk kind N P s args))] (aF e) S':=by
 have O:=kG P bn;have h1:=nM (nL P) A M;generalize bO P=w at *;clear M;rcases C with rfl|rfl|rfl|rfl|rfl|rfl|rfl <;>
 ((refine mn Tryz.func57 Tryz.call57 fun β hf=>?_);(repeat' (first|refine nj ?_|(refine zc ?_ ?_<;>intro h<;>first|(cases h;done)|rw[h]|skip)|refine uC rfl O ?_|refine tc ?_ (hq:=h1)|refine tc ?_ (hq:=Y)|((first|refine zt ?_|refine zu ?_ ?_)<;>intro h<;>(fail_if_success (cases h;done))<;>rw[h])));(all_goals rfl))
theorem gl (S S':bT) (kind N P:Int) (s:List UInt8) (args:List Nd) (l r:List Vl) (e:Int) (C:P=73\/P=74\/P=75\/P=76\/P=77\/P=78\/P=79\/P=80\/P=81\/P=82\/P=83) (M:gb (bO P) S.st=some (l,r)) (A:S.st.length<=1099511627776) (Y:cC 88 {S with st:=r} [.c (aX (.mk kind N P s args)),.c (.sl 7 (aa l))] (aF e) S'):cC 57 S [.c (aX (.mk kind N P s args))] (aF e) S':=by
 have O:=kG P bn;have h1:=nM (nL P) A M;generalize bO P=w at *;clear M;rcases C with rfl|rfl|rfl|rfl|rfl|rfl|rfl|rfl|rfl|rfl|rfl <;>
 ((refine mn Tryz.func57 Tryz.call57 fun β hf=>?_);(repeat' (first|refine nj ?_|(refine zc ?_ ?_<;>intro h<;>first|(cases h;done)|rw[h]|skip)|refine uC rfl O ?_|refine tc ?_ (hq:=h1)|refine tc ?_ (hq:=Y)|((first|refine zt ?_|refine zu ?_ ?_)<;>intro h<;>(fail_if_success (cases h;done))<;>rw[h])));(all_goals rfl))
theorem jC (S S':bT) (kind N P:Int) (s:List UInt8) (args:List Nd) (l r:List Vl) (e:Int) (C:P=84\/P=85\/P=86\/P=87\/P=88\/P=89\/P=90\/P=91\/P=92) (M:gb (bO P) S.st=some (l,r)) (A:S.st.length<=1099511627776) (Y:cC 89 {S with st:=r} [.c (aX (.mk kind N P s args)),.c (.sl 7 (aa l))] (aF e) S'):cC 57 S [.c (aX (.mk kind N P s args))] (aF e) S':=by
 have O:=kG P bn;have h1:=nM (nL P) A M;generalize bO P=w at *;clear M;rcases C with rfl|rfl|rfl|rfl|rfl|rfl|rfl|rfl|rfl <;>
 ((refine mn Tryz.func57 Tryz.call57 fun β hf=>?_);(repeat' (first|refine nj ?_|(refine zc ?_ ?_<;>intro h<;>first|(cases h;done)|rw[h]|skip)|refine uC rfl O ?_|refine tc ?_ (hq:=h1)|refine tc ?_ (hq:=Y)|((first|refine zt ?_|refine zu ?_ ?_)<;>intro h<;>(fail_if_success (cases h;done))<;>rw[h])));(all_goals rfl))
end Go.Proofs
