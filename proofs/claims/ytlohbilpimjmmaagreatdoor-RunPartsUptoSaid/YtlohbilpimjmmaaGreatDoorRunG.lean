/- Methods of package run's machine that keep its blocks' names; the end of a frame. One step of package run's machine. -/
import Derived.Test.YtlohbilpimjmmaaGreatDoorRunE
set_option maxHeartbeats 0
set_option linter.unusedVariables false
set_option linter.unusedSimpArgs false
set_option maxRecDepth 100000
namespace Go.Proofs
open Go.cu
def wF (f:FuncId) (S:bT) (args:List AV) (r:CV) (S':bT):Prop :=
 rU f (mI (mC S) (bK (sR S.st)) (bK (fR S.fr))) (.ptr 1000000 0::args) (.c r) (mI (mC S') (bK (sR S'.st)) (bK (fR S'.fr)))
theorem OH {f:FuncId} {n:Nat} {β:jH} {K:List Item} {env:Env} {T:Func} (hf:Tryz.prog.funcs[f]?=some T) {bs:List (Nat×List AV)} {ts:List (Nat×Nat)} {us:List Nat} {l:List AV} (I:s8 Tryz.X bs env T.results.toList=some l)
  {v:CV} (Y:close (BM l)=some v) {S':bT} {cells A S:List AV} (h1:ak 1000000 bs=some cells) (W:cells=mC S' 1000001 1000002) (h2:ak 1000001 bs=some A) (E:A=ag (sR S'.st)) (V:ak 1000002 bs=some S) (B:S=ag (fR S'.fr)) {r:CV} (P:v=r) :
  EE f n β (HR β (.c r) (mI (mC S') (bK (sR S'.st)) (bK (fR S'.fr)))) (.code .ret::K) env ⟨bs,ts,us⟩:=by
 subst W E B P;refine AK.C8 (.inl ⟨_,rfl⟩) Tryz.hX hf I [(1000000,1000000),(1000001,1000001),(1000002,1000002)] rfl (.inr Y) ⟨⟨_,_,rfl,h1,(DK S').conv _ _ _ _ _ _ rfl rfl⟩,⟨_,_,rfl,h2,dD _⟩,⟨_,_,rfl,V,dD _⟩,trivial⟩
theorem uMK {ops:Array Oper} {o:Oper} {rest:List Oper} {env:Env} {acc:List Fp} {Q:Env->St->List Fp->Prop} {bs:List (Nat×List AV)} {ts:List (Nat×Nat)} {us:List Nat} (W:cV ops.toList kn env o=some true) {f:FuncId} {args:Array Operand} {B:Array TypeId} (V:o.op = .call {callee := .value (.func f),args:=args,argTypes:=B})
  {S S':bT} {N:List AV} {r:CV} (hq:wF f S N r S') {d:Nat} (P:o.dst=some d)
  {l:List AV} (C:gI (aK Tryz.X env) args.toList=some l) {M:Nat} {q:List AV} (Y:l = .ptr M 0::q) {I U:Nat} {H T O:List AV} (h1:ak M bs=some H) (A:H=mC S I U) (h2:ak I bs=some T) (E:T=ag (sR S.st)) (K:ak U bs=some O) (J:O=ag (fR S.fr))
  (G:∀ts,fy ⟨fun k=>ak k [(1000000,M),(1000001,I),(1000002,U)],fun _=>none⟩ ts N q) (D:Go.cu.distinct [M,I,U]=true)
  {bs':List (Nat×List AV)} (u:lU [M,I,U] bs=bs')
  (k:oE ops rest ((d,.c r)::env) ⟨(M,mC S' I U)::(I,ag (sR S'.st))::(U,ag (fR S'.fr))::bs',ts,M::I::U::us⟩ (⟨[],[M,I,U,M,I,U,M,I,U]⟩::acc) Q):oE ops (o::rest) env ⟨bs,ts,us⟩ acc Q:=by
 subst Y;exact ai.XF kn W V hq (DK S) (DK S') P C rfl h1 A h2 E K J (fun ts=>⟨_,_,rfl,⟨_,fe,rfl⟩,G ts⟩) D rfl rfl u k
theorem KL {ops:Array Oper} {o:Oper} {rest:List Oper} {env:Env} {acc:List Fp} {Q:Env->St->List Fp->Prop} {bs:List (Nat×List AV)} {ts:List (Nat×Nat)} {us:List Nat} {f:FuncId} {args:Array Operand} {B:Array TypeId} {S S':bT} {N:List AV} {r:CV} {d:Nat} {l:List AV} {M:Nat} {q:List AV} {I U:Nat} {H T O:List AV} {bs':List (Nat×List AV)} (k:oE ops rest ((d,.c r)::env) ⟨(M,mC S' I U)::(I,ag (sR S'.st))::(U,ag (fR S'.fr))::bs',ts,M::I::U::us⟩ (⟨[],[M,I,U,M,I,U,M,I,U]⟩::acc) Q) (W:cV ops.toList kn env o=some true:=by exact rfl) (V:o.op = .call {callee := .value (.func f),args:=args,argTypes:=B}:=by exact rfl) (hq:wF f S N r S':=by assumption) (P:o.dst=some d:=by exact rfl) (C:gI (aK Tryz.X env) args.toList=some l:=by exact rfl) (Y:l = .ptr M 0::q:=by exact rfl) (h1:ak M bs=some H:=by exact rfl) (A:H=mC S I U:=by exact rfl) (h2:ak I bs=some T:=by exact rfl) (E:T=ag (sR S.st):=by exact rfl) (K:ak U bs=some O:=by exact rfl) (J:O=ag (fR S.fr):=by exact rfl) (G:∀ts,fy ⟨fun k=>ak k [(1000000,M),(1000001,I),(1000002,U)],fun _=>none⟩ ts N q:=by intro _;repeat' (first|exact rfl|refine cvA rfl ?_|refine cvP rfl ?_)) (D:Go.cu.distinct [M,I,U]=true:=by exact rfl) (u:lU [M,I,U] bs=bs':=by exact rfl): oE ops (o::rest) env ⟨bs,ts,us⟩ acc Q:=uMK W V hq P C Y h1 A h2 E K J G D u k
theorem OI (f:eO) (t:List eO):gv (0+t.length*4+1) (ag (fR (f::t)))=some [.c (aF (f.pos:Nat)),.c (aF f.fin),.c (.sl 7 (aa f.aside))]:=wo _ 1 _ _ _ (xT f t) rfl
theorem tQ (f:eO) (t:List eO):gv (0+t.length*4+2) (ag (fR (f::t)))=some [.c (aF f.fin),.c (.sl 7 (aa f.aside))]:=wo _ 2 _ _ _ (xT f t) rfl
theorem Ec (f:eO) (t:List eO):gv (0+t.length*4+3) (ag (fR (f::t)))=some [.c (.sl 7 (aa f.aside))]:=wo _ 3 _ _ _ (xT f t) rfl
theorem OJ (f:eO) (t:List eO):dL (0+t.length*4+1) [.c (aF 0)] (ag (fR (f::t)))=some (ag (fR ({f with pos:=0}::t))):=DP f t 0
attribute [local irreducible] AK ai bw bz dJ dN nA
theorem OK (S:bT) (h:S.gS<=S.used):wF 56 S [] (aF 12) S:=by
 have E:decide (S.used>=S.gS)=true:=aan h;refine dJ.of Tryz.func56 rfl (fun args w=>Tryz.call56 args w) (Nat.le_of_ble_eq_true rfl) [(0,.ptr 1000000 0)] ⟨[(1000000,mC (S) 1000001 1000002),(1000001,ag (sR (S).st)),(1000002,ag (fR (S).fr))],[],[1000000,1000001,1000002]⟩ rfl rfl fun β=>?_;have hf:=Tryz.func56
 repeat' (first|refine mY ?_|(refine zc ?_ ?_<;>intro h<;>first|(cases h;done)|rw[h]|skip))
 exact Yd
theorem OL (S:bT) (h:S.used<S.gS) (h1:Og S.gS) (h2:0<=S.used):wF 56 S [] (aF 0) {S with used:=S.used+1}:=by
 have E:decide (S.used>=S.gS)=false:=aaw bn;have Q:IntKind.i64.wrap (S.used+1)=S.used+1:=gZ bn (by have:=h1.2;omega);refine dJ.of Tryz.func56 rfl (fun args w=>Tryz.call56 args w) (Nat.le_of_ble_eq_true rfl) [(0,.ptr 1000000 0)] ⟨[(1000000,mC (S) 1000001 1000002),(1000001,ag (sR (S).st)),(1000002,ag (fR (S).fr))],[],[1000000,1000001,1000002]⟩ rfl rfl fun β=>?_;have hf:=Tryz.func56
 repeat' (first|refine mY ?_|(refine zc ?_ ?_<;>intro h<;>first|(cases h;done)|rw[h]|skip))
 rw[Q];exact Yd
theorem TA (S:bT) (h:S.st=[]):wF 80 S [] (.gB [bP oO,.bool false]) S:=by
 obtain⟨a,b,c,d,st,fr,g,u,m,said⟩:=S;simp only at h;subst h;have E:decide (IntKind.i64.wrap (((([]:List Vl).length:Nat):Int)-1)<0)=true:=by decide
 refine dJ.of Tryz.func80 rfl (fun args w=>Tryz.call80 args w) (Nat.le_of_ble_eq_true rfl) [(0,.ptr 1000000 0)] ⟨[(1000000,mC (bT.mk a b c d [] fr g u m said) 1000001 1000002),(1000001,ag (sR (bT.mk a b c d [] fr g u m said).st)),(1000002,ag (fR (bT.mk a b c d [] fr g u m said).fr))],[],[1000000,1000001,1000002]⟩ rfl rfl fun β=>?_;have hf:=Tryz.func80
 repeat' (first|refine mY ?_|(refine zc ?_ ?_<;>intro h<;>first|(cases h;done)|rw[h]|skip))
 exact Yd
theorem AI (S:bT) (v:Vl) (t:List Vl) (h:S.st=v::t) (I:t.length<=1099511627776):wF 80 S [] (.gB [bP v,.bool true]) {S with st:=t}:=by
 obtain⟨a,b,c,d,st,fr,g,u,m,said⟩:=S;simp only at h;subst h;have Q:IntKind.i64.wrap ((((v::t).length:Nat):Int)-1)=(t.length:Nat):=by
  rw[gZ eg eg];simp only[aaa];omega
 have E:decide (IntKind.i64.wrap ((((v::t).length:Nat):Int)-1)<0)=false:=by rw[Q];exact aaw bn
 obtain⟨k,n,C,s,args,H,B⟩:=v;have Y:=Hv k n C s args H B t;refine dJ.of Tryz.func80 rfl (fun args w=>Tryz.call80 args w) (Nat.le_of_ble_eq_true rfl) [(0,.ptr 1000000 0)] ⟨[(1000000,mC (bT.mk a b c d (.mk k n C s args H B::t) fr g u m said) 1000001 1000002),(1000001,ag (sR (bT.mk a b c d (.mk k n C s args H B::t) fr g u m said).st)),(1000002,ag (fR (bT.mk a b c d (.mk k n C s args H B::t) fr g u m said).fr))],[],[1000000,1000001,1000002]⟩ rfl rfl fun β=>?_;have hf:=Tryz.func80
 repeat' (first|refine mY ?_|(refine zc ?_ ?_<;>intro h<;>first|(cases h;done)|rw[h]|skip)|refine ai.jg Tryz.hX kn rfl rfl rfl rfl rfl rfl rfl rfl rfl t.length Q (Nat.lt_succ_self _) ?_|refine ai.gG Tryz.hX kn rfl rfl rfl rfl rfl rfl Y rfl ?_|refine ai.B6 Tryz.hX kn rfl rfl rfl rfl rfl rfl rfl rfl rfl rfl rfl rfl t.length Q (Nat.le_succ _) ?_)
 refine AK.vm 1000001 (ag (sR t)) _ rfl (DM _ _) rfl ?_;exact Yd
theorem Qr {X:Go.cu.Ctx} {env:Env} {y:Operand} {z:Int} {T:IntKind} {h:Nat} (Y:aK X env y=some (.c (.int T z))) (W:z=h):bound (aK X env) (some y)=some (some h):=by subst W;simp only[bound,Y,asNat]
theorem yH (S:bT) (F:eO) (t:List eO) (h:S.fr=F::t) (A:F.fin=0) (C:t.length<=1099511627776):cE 54 S [.ptr 1000002 (0+t.length*4)] (aF 0) {S with fr:=t}:=by
 obtain⟨a,b,c,d,E,fr,g,u,m,said⟩:=S;obtain⟨B,Y,fin,T⟩:=F;simp only at h A;subst h A;have h2:=tQ ⟨B,Y,0,T⟩ t;have Q:IntKind.i64.wrap ((((eO.mk B Y 0 T::t).length:Nat):Int)-1)=(t.length:Nat):=by
  rw[gZ eg eg];simp only[aaa];omega
 refine mn Tryz.func54 Tryz.call54 fun β hf=>?_
 repeat' ((fail_if_success (refine kI 28 ?_));first|refine mY ?_|(refine zc ?_ ?_<;>intro h<;>first|(cases h;done)|rw[h]|skip)|refine AK.skip ?_|refine AK.seq ?_|refine AK.block ?_|refine AK.exit rfl ?_|refine ai.gG Tryz.hX kn rfl rfl rfl rfl rfl rfl h2 rfl ?_|refine ai.sliceB Tryz.hX kn rfl rfl rfl rfl rfl rfl rfl rfl (l:=none) (h:=some t.length) rfl (Qr rfl Q) (Nat.le_succ _) (Nat.zero_le _) ?_|(refine uA rfl ?_ ?_<;>(try (show(_:Nat)*_<=_;dsimp only))))
 refine AK.vm 1000002 (cells:=ag (fR (⟨B,Y,0,T⟩::t))) (ag (fR t)) (ag [rF ⟨B,Y,0,T⟩]) rfl (lO _ _) rfl ?_;exact dm
theorem Nl (a b c d:Int) (E:List Vl) (g u m:Int) (said:Vl) (B:List Nd) (Y:Nat) (T:List Vl) (t:List eO) (U:E.length<=500000000) (C:T.length<=500000000) (I:t.length<=1099511627776):cE 54 ⟨a,b,c,d,E,⟨B,Y,1,T⟩::t,g,u,m,said⟩ [.ptr 1000002 (0+t.length*4)] (aF 0) ⟨a,b,c,d,T.reverse++E,t,g,u,m,said⟩:=by
 have h2:=tQ ⟨B,Y,1,T⟩ t;have V:=Ec ⟨B,Y,1,T⟩ t;have Q:IntKind.i64.wrap (((((⟨B,Y,1,T⟩:eO)::t).length:Nat):Int)-1)=(t.length:Nat):=by
  rw[gZ eg eg];simp only[aaa];omega
 have W:sR E++aa T=sR (T.reverse++E):=by rw[sR,sR,List.reverse_append,List.reverse_reverse,kz]
 have p:((sR E).length+(aa T).length)*112<=140737488355328:=by rw[iR,az];omega
 refine mn Tryz.func54 Tryz.call54 fun β hf=>?_
 repeat' ((fail_if_success (refine kI 28 ?_));first|refine mY ?_|(refine zc ?_ ?_<;>intro h<;>first|(cases h;done)|rw[h]|skip)|refine AK.skip ?_|refine AK.seq ?_|refine AK.block ?_|refine AK.exit rfl ?_|refine ai.gG Tryz.hX kn rfl rfl rfl rfl rfl rfl h2 rfl ?_|refine ai.gG Tryz.hX kn rfl rfl rfl rfl rfl rfl V rfl ?_|refine ai.mG Tryz.hX kn rfl rfl rfl rfl rfl rfl rfl rfl rfl rfl rfl rfl rfl rfl rfl (sR E) [] (List.append_nil _).symm (iR _).symm (sZ _) rfl rfl rfl rfl rfl rfl rfl p W (m:=(T.reverse++E).length) (iR _) rfl ?_|refine ai.sliceB Tryz.hX kn rfl rfl rfl rfl rfl rfl rfl rfl (l:=none) (h:=some t.length) rfl (Qr rfl Q) (Nat.le_succ _) (Nat.zero_le _) ?_|(refine uA rfl ?_ ?_<;>(try (show(_:Nat)*_<=_;dsimp only))))
 refine AK.vm 1000002 (cells:=ag (fR (⟨B,Y,1,T⟩::t))) (ag (fR t)) (ag [rF ⟨B,Y,1,T⟩]) rfl (lO _ _) rfl ?_;exact dm
theorem HY (a b c d:Int) (E:List Vl) (g u m:Int) (said:Vl) (B:List Nd) (Y:Nat) (T:List Vl) (t:List eO) (C:t.length<=1099511627776):cE 54 ⟨a,b,c,d,[],⟨B,Y,2,T⟩::t,g,u,m,said⟩ [.ptr 1000002 (0+t.length*4)] (aF 14) ⟨a,b,c,d,[],⟨B,Y,2,T⟩::t,g,u,m,said⟩:=by
 have h2:=tQ ⟨B,Y,2,T⟩ t;have V:=Ec ⟨B,Y,2,T⟩ t;have Q:IntKind.i64.wrap (((((⟨B,Y,2,T⟩:eO)::t).length:Nat):Int)-1)=(t.length:Nat):=by
  rw[gZ eg eg];simp only[aaa];omega
 refine mn Tryz.func54 Tryz.call54 fun β hf=>?_
 repeat' (first|refine mY ?_|(refine zc ?_ ?_<;>intro h<;>first|(cases h;done)|rw[h]|skip)|refine AK.skip ?_|refine AK.seq ?_|refine AK.block ?_|refine AK.exit rfl ?_|refine ai.gG Tryz.hX kn rfl rfl rfl rfl rfl rfl h2 rfl ?_|(refine uA rfl ?_ ?_<;>(try (show(_:Nat)*_<=_;dsimp only))))
 all_goals rfl
theorem HZ (a b c d:Int) (v:Vl) (E:List Vl) (g u m:Int) (said:Vl) (B:List Nd) (Y:Nat) (t:List eO) (P:E.length<=500000000) (I:t.length<=1099511627776):cE 54 ⟨a,b,c,d,v::E,⟨B,Y,2,[]⟩::t,g,u,m,said⟩ [.ptr 1000002 (0+t.length*4)] (aF 0) ⟨a,b,c,d,[v],t,g,u,m,said⟩:=by
 have h2:=tQ ⟨B,Y,2,[]⟩ t;have V:=Ec ⟨B,Y,2,[]⟩ t;have Q:IntKind.i64.wrap (((((⟨B,Y,2,[]⟩:eO)::t).length:Nat):Int)-1)=(t.length:Nat):=by
  rw[gZ eg eg];simp only[aaa];omega
 have U:IntKind.i64.wrap ((((E.length+1:Nat)):Int)-1)=(E.length:Nat):=by rw[gZ bn bn];omega
 have N:((((E.length+1:Nat)):Int)==0)=false:=beq_eq_false_iff_ne.2 bn;obtain⟨T,K,C,q,W,O,H⟩:=v;have S:=Hv T K C q W O H E;refine mn Tryz.func54 Tryz.call54 fun β hf=>?_
 repeat' ((fail_if_success (refine kI 28 ?_));first|refine mY ?_|(refine zc ?_ ?_<;>intro h<;>first|(cases h;done)|rw[h]|skip)|refine AK.skip ?_|refine AK.seq ?_|refine AK.block ?_|refine AK.exit rfl ?_|refine ai.gG Tryz.hX kn rfl rfl rfl rfl rfl rfl h2 rfl ?_|refine ai.jg Tryz.hX kn rfl rfl rfl rfl rfl rfl rfl rfl rfl E.length U (Nat.lt_succ_self _) ?_|refine ai.gG Tryz.hX kn rfl rfl rfl rfl rfl rfl S rfl ?_|refine ai.gG Tryz.hX kn rfl rfl rfl rfl rfl rfl V rfl ?_|refine ai.xE kn rfl rfl (jA 7) rfl rfl (fun _=>⟨_,_,rfl,.inr rfl,rfl⟩) rfl rfl ?_|refine ai.vP Tryz.hX kn rfl rfl rfl rfl rfl rfl rfl rfl rfl rfl rfl rfl rfl rfl rfl rfl rfl rfl (fun h=>by cases h) rfl rfl rfl (show(0+1)*112<=140737488355328 by decide) rfl (m:=1) rfl ?_|refine ai.sliceB Tryz.hX kn rfl rfl rfl rfl rfl rfl rfl rfl (l:=none) (h:=some t.length) rfl (Qr rfl Q) (Nat.le_succ _) (Nat.zero_le _) ?_|(refine uA rfl ?_ ?_<;>(try (show(_:Nat)*_<=_;dsimp only))))
 refine AK.vm 1000002 (cells:=ag (fR (⟨B,Y,2,[]⟩::t))) (ag (fR t)) (ag [rF ⟨B,Y,2,[]⟩]) rfl (lO _ _) rfl ?_;exact dm
theorem H6 (a b c d:Int) (v:Vl) (E:List Vl) (g u m:Int) (said:Vl) (B:List Nd) (Y:Nat) (x:Vl) (q:List Vl) (t:List eO) (M:E.length<=500000000) (I:q.length<=500000000) (D:t.length<=1099511627776):cE 54 ⟨a,b,c,d,v::E,⟨B,Y,2,(x::q)⟩::t,g,u,m,said⟩ [.ptr 1000002 (0+t.length*4)] (aF 0) ⟨a,b,c,d,v::(x::q).reverse,t,g,u,m,said⟩:=by
 have h2:=tQ ⟨B,Y,2,(x::q)⟩ t;have S:=Ec ⟨B,Y,2,(x::q)⟩ t;have Q:IntKind.i64.wrap (((((⟨B,Y,2,(x::q)⟩:eO)::t).length:Nat):Int)-1)=(t.length:Nat):=by
  rw[gZ eg eg];simp only[aaa];omega
 have P:IntKind.i64.wrap ((((E.length+1:Nat)):Int)-1)=(E.length:Nat):=by rw[gZ bn bn];omega
 have A:((((E.length+1:Nat)):Int)==0)=false:=beq_eq_false_iff_ne.2 bn;obtain⟨V,K,C,J,W,O,H⟩:=v;have N:=Hv V K C J W O H E;have G:=fo x q bn;have U:aa (x::q)++aa [.mk V K C J W O H]=sR (.mk V K C J W O H::(x::q).reverse):=by rw[sR,List.reverse_cons,List.reverse_reverse,kz]
 have T:(bK (aa (x::q))).length=(q.length+1)*7:=by rw[dh (rows:=aa (x::q)) (s:=7) (gk _),az];rfl
 have p:((aa (x::q)).length+1)*112<=140737488355328:=by rw[az,aaa];omega
 refine mn Tryz.func54 Tryz.call54 fun β hf=>?_
 repeat' ((fail_if_success (refine kI 28 ?_));first|refine mY ?_|(refine zc ?_ ?_<;>intro h<;>first|(cases h;done)|rw[h]|skip)|refine AK.skip ?_|refine AK.seq ?_|refine AK.block ?_|refine AK.exit rfl ?_|refine ai.gG Tryz.hX kn rfl rfl rfl rfl rfl rfl h2 rfl ?_|refine ai.jg Tryz.hX kn rfl rfl rfl rfl rfl rfl rfl rfl rfl E.length P (Nat.lt_succ_self _) ?_|refine ai.gG Tryz.hX kn rfl rfl rfl rfl rfl rfl N rfl ?_|refine ai.gG Tryz.hX kn rfl rfl rfl rfl rfl rfl S rfl ?_|refine ai.lz kn rfl rfl rfl rfl rfl rfl G rfl ?_|refine ai.mG Tryz.hX kn rfl rfl rfl rfl rfl rfl rfl rfl rfl rfl rfl rfl rfl rfl rfl (aa (x::q)) [] (List.append_nil _).symm (az (x::q)).symm T rfl rfl rfl rfl rfl rfl rfl p U (m:=(Vl.mk V K C J W O H::(x::q).reverse).length) (iR _) rfl ?_|refine ai.sliceB Tryz.hX kn rfl rfl rfl rfl rfl rfl rfl rfl (l:=none) (h:=some t.length) rfl (Qr rfl Q) (Nat.le_succ _) (Nat.zero_le _) ?_|(refine uA rfl ?_ ?_<;>(try (show(_:Nat)*_<=_;dsimp only))))
 refine AK.vm 1000002 (cells:=ag (fR (⟨B,Y,2,(x::q)⟩::t))) (ag (fR t)) (ag [rF ⟨B,Y,2,(x::q)⟩]) rfl (lO _ _) rfl ?_;exact dm
theorem H7 (a b c d:Int) (E:List Vl) (g u m:Int) (said:Vl) (B:List Nd) (Y:Nat) (t:List eO) (C:t.length<=1099511627776):cE 54 ⟨a,b,c,d,E,⟨B,Y,3,[]⟩::t,g,u,m,said⟩ [.ptr 1000002 (0+t.length*4)] (aF 0) ⟨a,b,c,d,E,t,g,u,m,said⟩:=by
 have h2:=tQ ⟨B,Y,3,[]⟩ t;have V:=Ec ⟨B,Y,3,[]⟩ t;have Q:IntKind.i64.wrap (((((⟨B,Y,3,[]⟩:eO)::t).length:Nat):Int)-1)=(t.length:Nat):=by
  rw[gZ eg eg];simp only[aaa];omega
 refine mn Tryz.func54 Tryz.call54 fun β hf=>?_
 repeat' ((fail_if_success (refine kI 28 ?_));first|refine mY ?_|(refine zc ?_ ?_<;>intro h<;>first|(cases h;done)|rw[h]|skip)|refine AK.skip ?_|refine AK.seq ?_|refine AK.block ?_|refine AK.exit rfl ?_|refine ai.gG Tryz.hX kn rfl rfl rfl rfl rfl rfl h2 rfl ?_|refine ai.gG Tryz.hX kn rfl rfl rfl rfl rfl rfl V rfl ?_|refine ai.sliceB Tryz.hX kn rfl rfl rfl rfl rfl rfl rfl rfl (l:=none) (h:=some t.length) rfl (Qr rfl Q) (Nat.le_succ _) (Nat.zero_le _) ?_|(refine uA rfl ?_ ?_<;>(try (show(_:Nat)*_<=_;dsimp only))))
 refine AK.vm 1000002 (cells:=ag (fR (⟨B,Y,3,[]⟩::t))) (ag (fR t)) (ag [rF ⟨B,Y,3,[]⟩]) rfl (lO _ _) rfl ?_;exact dm
theorem H8 (a b c d:Int) (E:List Vl) (g u m:Int) (said:Vl) (B:List Nd) (Y:Nat) (x:Vl) (q:List Vl) (t:List eO) (Q:g<=u) (C:t.length<=1099511627776):cE 54 ⟨a,b,c,d,E,⟨B,Y,3,x::q⟩::t,g,u,m,said⟩ [.ptr 1000002 (0+t.length*4)] (aF 12) ⟨a,b,c,d,E,⟨B,Y,3,x::q⟩::t,g,u,m,said⟩:=by
 have h2:=tQ ⟨B,Y,3,x::q⟩ t;have V:=Ec ⟨B,Y,3,x::q⟩ t;have W:IntKind.i64.wrap (((((⟨B,Y,3,x::q⟩:eO)::t).length:Nat):Int)-1)=(t.length:Nat):=by
  rw[gZ eg eg];simp only[aaa];omega
 have T:=OK ⟨a,b,c,d,E,⟨B,Y,3,x::q⟩::t,g,u,m,said⟩ Q;have K:decide ((((aa (x::q)).length:Nat):Int)>0)=true:=aan (by rw[az,aaa];omega);refine mn Tryz.func54 Tryz.call54 fun β hf=>?_
 repeat' (first|refine mY ?_|(refine zc ?_ ?_<;>intro h<;>first|(cases h;done)|rw[h]|skip)|refine AK.skip ?_|refine AK.seq ?_|refine AK.block ?_|refine AK.exit rfl ?_|refine ai.gG Tryz.hX kn rfl rfl rfl rfl rfl rfl h2 rfl ?_|refine ai.gG Tryz.hX kn rfl rfl rfl rfl rfl rfl V rfl ?_|refine KL ?_ (hq:=T)|(refine uA rfl ?_ ?_<;>(try (show(_:Nat)*_<=_;dsimp only))))
 all_goals rfl
theorem H9 (a b c d:Int) (E:List Vl) (g u m:Int) (said:Vl) (B:List Nd) (Y:Nat) (x:Vl) (q:List Vl) (t:List eO) (Q:u<g) (I:Og g) (A:0<=u) (M:E.length<=500000000) (G:t.length<=1099511627776):cE 54 ⟨a,b,c,d,E,⟨B,Y,3,x::q⟩::t,g,u,m,said⟩ [.ptr 1000002 (0+t.length*4)] (aF 0) ⟨a,b,c,d,x::E,⟨B,0,3,q⟩::t,g,u+1,m,said⟩:=by
 have h2:=tQ ⟨B,Y,3,x::q⟩ t;have S:=Ec ⟨B,Y,3,x::q⟩ t;have D:IntKind.i64.wrap (((((⟨B,Y,3,x::q⟩:eO)::t).length:Nat):Int)-1)=(t.length:Nat):=by
  rw[gZ eg eg];simp only[aaa];omega
 have P:=OL ⟨a,b,c,d,E,⟨B,Y,3,x::q⟩::t,g,u,m,said⟩ Q I A;have hc:decide ((((aa (x::q)).length:Nat):Int)>0)=true:=aan (by rw[az,aaa];omega);obtain⟨T,K,C,J,W,O,H⟩:=x;have N:=Mo T K C J W O H E;have p:((sR E).length+1)*112<=140737488355328:=by rw[iR];omega
 have V:=S5 ⟨B,Y,3,.mk T K C J W O H::q⟩ t q;have U:=OJ ⟨B,Y,3,q⟩ t;refine mn Tryz.func54 Tryz.call54 fun β hf=>?_
 repeat' (first|refine mY ?_|(refine zc ?_ ?_<;>intro h<;>first|(cases h;done)|rw[h]|skip)|refine AK.skip ?_|refine AK.seq ?_|refine AK.block ?_|refine AK.exit rfl ?_|refine ai.gG Tryz.hX kn rfl rfl rfl rfl rfl rfl h2 rfl ?_|refine ai.gG Tryz.hX kn rfl rfl rfl rfl rfl rfl S rfl ?_|refine KL ?_ (hq:=P)|refine uI rfl (0) rfl (rfl) rfl ?_|refine ai.mG Tryz.hX kn rfl rfl rfl rfl rfl rfl rfl rfl rfl rfl rfl rfl rfl rfl rfl (sR E) [] (List.append_nil _).symm (iR _).symm (sZ _) rfl rfl rfl rfl rfl rfl rfl p rfl (m:=E.length+1) (by rw[aax,iR];rfl) rfl ?_|refine ai.jg Tryz.hX kn rfl rfl rfl rfl rfl rfl rfl rfl rfl E.length rfl (Nat.lt_succ_self _) ?_|refine ai.store Tryz.hX kn rfl rfl rfl rfl rfl rfl rfl rfl rfl (N _ rfl) rfl ?_|refine ai.sliceFrom Tryz.hX kn rfl rfl rfl rfl rfl rfl rfl rfl (m:=1) rfl (Nat.succ_le_succ (Nat.zero_le _)) ?_|refine ai.store Tryz.hX kn rfl rfl rfl rfl rfl rfl rfl rfl rfl V rfl ?_|refine ai.store Tryz.hX kn rfl rfl rfl rfl rfl rfl rfl rfl rfl U rfl ?_|(refine uA rfl ?_ ?_<;>(try (show(_:Nat)*_<=_;dsimp only))))
 all_goals rfl
theorem Ia (a b c d:Int) (E:List Vl) (g u m:Int) (said:Vl) (B:List Nd) (Y:Nat) (T:List Vl) (t:List eO) (W:E.length<=500000000) (C:t.length<=1099511627776):cE 54 ⟨a,b,c,d,[],⟨B,Y,4,T⟩::t,g,u,m,said⟩ [.ptr 1000002 (0+t.length*4)] (aF 14) ⟨a,b,c,d,[],⟨B,Y,4,T⟩::t,g,u,m,said⟩:=by
 have h2:=tQ ⟨B,Y,4,T⟩ t;have Q:IntKind.i64.wrap (((((⟨B,Y,4,T⟩:eO)::t).length:Nat):Int)-1)=(t.length:Nat):=by
  rw[gZ eg eg];simp only[aaa];omega
 have A:=TA ⟨a,b,c,d,[],⟨B,Y,4,T⟩::t,g,u,m,said⟩ rfl;refine mn Tryz.func54 Tryz.call54 fun β hf=>?_
 repeat' (first|refine mY ?_|(refine zc ?_ ?_<;>intro h<;>first|(cases h;done)|rw[h]|skip)|refine AK.skip ?_|refine AK.seq ?_|refine AK.block ?_|refine AK.exit rfl ?_|refine ai.gG Tryz.hX kn rfl rfl rfl rfl rfl rfl h2 rfl ?_|refine KL ?_ (hq:=A)|(refine uA rfl ?_ ?_<;>(try (show(_:Nat)*_<=_;dsimp only))))
 all_goals rfl
theorem Ie (a b c d:Int) (V K C:Int) (q:List UInt8) (W:List Vl) (O:List Ty) (H:List Nd) (N:¬K=1) (E:List Vl) (g u m:Int) (said:Vl) (B:List Nd) (Y:Nat) (T:List Vl) (t:List eO) (U:E.length<=500000000) (I:t.length<=1099511627776):cE 54 ⟨a,b,c,d,.mk V K C q W O H::E,⟨B,Y,4,T⟩::t,g,u,m,said⟩ [.ptr 1000002 (0+t.length*4)] (aF 0) ⟨a,b,c,d,E,t,g,u,m,said⟩:=by
 have h2:=tQ ⟨B,Y,4,T⟩ t;have Q:IntKind.i64.wrap (((((⟨B,Y,4,T⟩:eO)::t).length:Nat):Int)-1)=(t.length:Nat):=by
  rw[gZ eg eg];simp only[aaa];omega
 have A:=AI ⟨a,b,c,d,.mk V K C q W O H::E,⟨B,Y,4,T⟩::t,g,u,m,said⟩ (.mk V K C q W O H) E rfl bn;have S:(K==1)=false:=beq_eq_false_iff_ne.2 N;refine mn Tryz.func54 Tryz.call54 fun β hf=>?_
 repeat' ((fail_if_success (refine kI 28 ?_));first|refine mY ?_|(refine zc ?_ ?_<;>intro h<;>first|(cases h;done)|rw[h]|skip)|refine AK.skip ?_|refine AK.seq ?_|refine AK.block ?_|refine AK.exit rfl ?_|refine ai.gG Tryz.hX kn rfl rfl rfl rfl rfl rfl h2 rfl ?_|refine KL ?_ (hq:=A)|refine ai.sliceB Tryz.hX kn rfl rfl rfl rfl rfl rfl rfl rfl (l:=none) (h:=some t.length) rfl (Qr rfl Q) (Nat.le_succ _) (Nat.zero_le _) ?_|(refine uA rfl ?_ ?_<;>(try (show(_:Nat)*_<=_;dsimp only))))
 refine AK.vm 1000002 (cells:=ag (fR (⟨B,Y,4,T⟩::t))) (ag (fR t)) (ag [rF ⟨B,Y,4,T⟩]) rfl (lO _ _) rfl ?_;exact dm
theorem Ib (a b c d:Int) (V C:Int) (q:List UInt8) (W:List Vl) (O:List Ty) (H:List Nd) (E:List Vl) (g u m:Int) (said:Vl) (B:List Nd) (Y:Nat) (T:List Vl) (t:List eO) (Q:g<=u) (U:E.length<=500000000) (I:t.length<=1099511627776):cE 54 ⟨a,b,c,d,.mk V 1 C q W O H::E,⟨B,Y,4,T⟩::t,g,u,m,said⟩ [.ptr 1000002 (0+t.length*4)] (aF 12) ⟨a,b,c,d,E,⟨B,Y,4,T⟩::t,g,u,m,said⟩:=by
 have h2:=tQ ⟨B,Y,4,T⟩ t;have S:IntKind.i64.wrap (((((⟨B,Y,4,T⟩:eO)::t).length:Nat):Int)-1)=(t.length:Nat):=by
  rw[gZ eg eg];simp only[aaa];omega
 have A:=AI ⟨a,b,c,d,.mk V 1 C q W O H::E,⟨B,Y,4,T⟩::t,g,u,m,said⟩ (.mk V 1 C q W O H) E rfl bn;have hq:=OK ⟨a,b,c,d,E,⟨B,Y,4,T⟩::t,g,u,m,said⟩ Q;refine mn Tryz.func54 Tryz.call54 fun β hf=>?_
 repeat' (first|refine mY ?_|(refine zc ?_ ?_<;>intro h<;>first|(cases h;done)|rw[h]|skip)|refine AK.skip ?_|refine AK.seq ?_|refine AK.block ?_|refine AK.exit rfl ?_|refine ai.gG Tryz.hX kn rfl rfl rfl rfl rfl rfl h2 rfl ?_|refine KL ?_ (hq:=A)|refine KL ?_ (hq:=hq)|(refine uA rfl ?_ ?_<;>(try (show(_:Nat)*_<=_;dsimp only))))
 all_goals rfl
theorem Ic (a b c d:Int) (V C:Int) (q:List UInt8) (W:List Vl) (O:List Ty) (H:List Nd) (E:List Vl) (g u m:Int) (said:Vl) (B:List Nd) (Y:Nat) (T:List Vl) (t:List eO) (Q:u<g) (I:Og g) (A:0<=u) (P:E.length<=500000000) (N:t.length<=1099511627776):cE 54 ⟨a,b,c,d,.mk V 1 C q W O H::E,⟨B,Y,4,T⟩::t,g,u,m,said⟩ [.ptr 1000002 (0+t.length*4)] (aF 0) ⟨a,b,c,d,E,⟨B,0,4,T⟩::t,g,u+1,m,said⟩:=by
 have h2:=tQ ⟨B,Y,4,T⟩ t;have M:IntKind.i64.wrap (((((⟨B,Y,4,T⟩:eO)::t).length:Nat):Int)-1)=(t.length:Nat):=by
  rw[gZ eg eg];simp only[aaa];omega
 have S:=AI ⟨a,b,c,d,.mk V 1 C q W O H::E,⟨B,Y,4,T⟩::t,g,u,m,said⟩ (.mk V 1 C q W O H) E rfl bn;have hq:=OL ⟨a,b,c,d,E,⟨B,Y,4,T⟩::t,g,u,m,said⟩ Q I A;have U:=OJ ⟨B,Y,4,T⟩ t;refine mn Tryz.func54 Tryz.call54 fun β hf=>?_
 repeat' (first|refine mY ?_|(refine zc ?_ ?_<;>intro h<;>first|(cases h;done)|rw[h]|skip)|refine AK.skip ?_|refine AK.seq ?_|refine AK.block ?_|refine AK.exit rfl ?_|refine ai.gG Tryz.hX kn rfl rfl rfl rfl rfl rfl h2 rfl ?_|refine KL ?_ (hq:=S)|refine KL ?_ (hq:=hq)|refine ai.store Tryz.hX kn rfl rfl rfl rfl rfl rfl rfl rfl rfl U rfl ?_|(refine uA rfl ?_ ?_<;>(try (show(_:Nat)*_<=_;dsimp only))))
 all_goals rfl
end Go.Proofs
namespace Go.Proofs
open Go.cu
theorem acX (Y J W:Prop) [Decidable Y] [Decidable J] [Decidable W]:(if Y then 0 else if J then 2 else if W then 3 else 1:Nat)<=3:=by
 by_cases h1:Y
 ·rw[if_pos h1];omega
 rw[if_neg h1];by_cases h2:J
 ·rw[if_pos h2];omega
 rw[if_neg h2];by_cases V:W
 ·rw[if_pos V];omega
 ·rw[if_neg V];omega
theorem nH (p:Int):bV p<=3:=by unfold bV;exact acX _ _ _
theorem nI {S:bT} {n:Nat} {l r:List Vl} (O:n<=3) (C:S.st.length<=1099511627776) (h:je n S.st=some (l,r)):cE 81 S [.c (aF (n:Nat))] (.gB [.sl 7 (aa l),.bool true]) {S with st:=r}:=by
 have h1:=Mq S n O C;rw[h]at h1;exact h1
attribute [local irreducible] AK ai bw bz dJ dN nA bV
theorem oZ (S S':bT) (kind N P:Int) (s:List UInt8) (args:List Nd) (l r:List Vl) (e:Int) (O:P=40\/P=41\/P=42\/P=43\/P=44) (M:je (bV P) S.st=some (l,r)) (C:S.st.length<=1099511627776) (u:cE 83 {S with st:=r} [.c (aW (.mk kind N P s args)),.c (.sl 7 (aa l))] (aF e) S'):cE 57 S [.c (aW (.mk kind N P s args))] (aF e) S':=by
 have Q:=kC P bn;have h1:=nI (nH P) C M;generalize bV P=w at *;clear M;rcases O with rfl|rfl|rfl|rfl|rfl <;>
 ((refine mn Tryz.func57 Tryz.call57 fun β hf=>?_);(repeat' (first|refine mY ?_|(refine zc ?_ ?_<;>intro h<;>first|(cases h;done)|rw[h]|skip)|refine uC rfl Q ?_|refine sY ?_ (hq:=h1)|refine sY ?_ (hq:=u)|((first|refine zt ?_|refine zu ?_ ?_)<;>intro h<;>(fail_if_success (cases h;done))<;>rw[h])));(all_goals rfl))
theorem iT (S S':bT) (kind N P:Int) (s:List UInt8) (args:List Nd) (l r:List Vl) (e:Int) (O:P=45\/P=46\/P=47\/P=48\/P=49\/P=50\/P=51\/P=53\/P=54\/P=56) (M:je (bV P) S.st=some (l,r)) (C:S.st.length<=1099511627776) (u:cE 84 {S with st:=r} [.c (aW (.mk kind N P s args)),.c (.sl 7 (aa l))] (aF e) S'):cE 57 S [.c (aW (.mk kind N P s args))] (aF e) S':=by
 have Q:=kC P bn;have h1:=nI (nH P) C M;generalize bV P=w at *;clear M;rcases O with rfl|rfl|rfl|rfl|rfl|rfl|rfl|rfl|rfl|rfl <;>
 ((refine mn Tryz.func57 Tryz.call57 fun β hf=>?_);(repeat' (first|refine mY ?_|(refine zc ?_ ?_<;>intro h<;>first|(cases h;done)|rw[h]|skip)|refine uC rfl Q ?_|refine sY ?_ (hq:=h1)|refine sY ?_ (hq:=u)|((first|refine zt ?_|refine zu ?_ ?_)<;>intro h<;>(fail_if_success (cases h;done))<;>rw[h])));(all_goals rfl))
theorem fD (S S':bT) (kind N P:Int) (s:List UInt8) (args:List Nd) (l r:List Vl) (e:Int) (O:P=52\/P=55\/P=58\/P=60\/P=64\/P=65\/P=66\/P=67\/P=68) (M:je (bV P) S.st=some (l,r)) (C:S.st.length<=1099511627776) (u:cE 85 {S with st:=r} [.c (aW (.mk kind N P s args)),.c (.sl 7 (aa l))] (aF e) S'):cE 57 S [.c (aW (.mk kind N P s args))] (aF e) S':=by
 have Q:=kC P bn;have h1:=nI (nH P) C M;generalize bV P=w at *;clear M;rcases O with rfl|rfl|rfl|rfl|rfl|rfl|rfl|rfl|rfl <;>
 ((refine mn Tryz.func57 Tryz.call57 fun β hf=>?_);(repeat' (first|refine mY ?_|(refine zc ?_ ?_<;>intro h<;>first|(cases h;done)|rw[h]|skip)|refine uC rfl Q ?_|refine sY ?_ (hq:=h1)|refine sY ?_ (hq:=u)|((first|refine zt ?_|refine zu ?_ ?_)<;>intro h<;>(fail_if_success (cases h;done))<;>rw[h])));(all_goals rfl))
theorem ql (S S':bT) (kind N P:Int) (s:List UInt8) (args:List Nd) (l r:List Vl) (e:Int) (O:P=57\/P=59\/P=61\/P=62\/P=63) (M:je (bV P) S.st=some (l,r)) (C:S.st.length<=1099511627776) (u:cE 86 {S with st:=r} [.c (aW (.mk kind N P s args)),.c (.sl 7 (aa l))] (aF e) S'):cE 57 S [.c (aW (.mk kind N P s args))] (aF e) S':=by
 have Q:=kC P bn;have h1:=nI (nH P) C M;generalize bV P=w at *;clear M;rcases O with rfl|rfl|rfl|rfl|rfl <;>
 ((refine mn Tryz.func57 Tryz.call57 fun β hf=>?_);(repeat' (first|refine mY ?_|(refine zc ?_ ?_<;>intro h<;>first|(cases h;done)|rw[h]|skip)|refine uC rfl Q ?_|refine sY ?_ (hq:=h1)|refine sY ?_ (hq:=u)|((first|refine zt ?_|refine zu ?_ ?_)<;>intro h<;>(fail_if_success (cases h;done))<;>rw[h])));(all_goals rfl))
theorem dS (S S':bT) (kind N P:Int) (s:List UInt8) (args:List Nd) (l r:List Vl) (e:Int) (O:P=69\/P=70\/P=71\/P=72\/P=93\/P=94\/P=95) (M:je (bV P) S.st=some (l,r)) (C:S.st.length<=1099511627776) (u:cE 87 {S with st:=r} [.c (aF P),.c (.sl 7 (aa l))] (aF e) S'):cE 57 S [.c (aW (.mk kind N P s args))] (aF e) S':=by
 have Q:=kC P bn;have h1:=nI (nH P) C M;generalize bV P=w at *;clear M;rcases O with rfl|rfl|rfl|rfl|rfl|rfl|rfl <;>
 ((refine mn Tryz.func57 Tryz.call57 fun β hf=>?_);(repeat' (first|refine mY ?_|(refine zc ?_ ?_<;>intro h<;>first|(cases h;done)|rw[h]|skip)|refine uC rfl Q ?_|refine sY ?_ (hq:=h1)|refine sY ?_ (hq:=u)|((first|refine zt ?_|refine zu ?_ ?_)<;>intro h<;>(fail_if_success (cases h;done))<;>rw[h])));(all_goals rfl))
theorem gn (S S':bT) (kind N P:Int) (s:List UInt8) (args:List Nd) (l r:List Vl) (e:Int) (O:P=73\/P=74\/P=75\/P=76\/P=77\/P=78\/P=79\/P=80\/P=81\/P=82\/P=83) (M:je (bV P) S.st=some (l,r)) (C:S.st.length<=1099511627776) (u:cE 88 {S with st:=r} [.c (aW (.mk kind N P s args)),.c (.sl 7 (aa l))] (aF e) S'):cE 57 S [.c (aW (.mk kind N P s args))] (aF e) S':=by
 have Q:=kC P bn;have h1:=nI (nH P) C M;generalize bV P=w at *;clear M;rcases O with rfl|rfl|rfl|rfl|rfl|rfl|rfl|rfl|rfl|rfl|rfl <;>
 ((refine mn Tryz.func57 Tryz.call57 fun β hf=>?_);(repeat' (first|refine mY ?_|(refine zc ?_ ?_<;>intro h<;>first|(cases h;done)|rw[h]|skip)|refine uC rfl Q ?_|refine sY ?_ (hq:=h1)|refine sY ?_ (hq:=u)|((first|refine zt ?_|refine zu ?_ ?_)<;>intro h<;>(fail_if_success (cases h;done))<;>rw[h])));(all_goals rfl))
theorem jE (S S':bT) (kind N P:Int) (s:List UInt8) (args:List Nd) (l r:List Vl) (e:Int) (O:P=84\/P=85\/P=86\/P=87\/P=88\/P=89\/P=90\/P=91\/P=92) (M:je (bV P) S.st=some (l,r)) (C:S.st.length<=1099511627776) (u:cE 89 {S with st:=r} [.c (aW (.mk kind N P s args)),.c (.sl 7 (aa l))] (aF e) S'):cE 57 S [.c (aW (.mk kind N P s args))] (aF e) S':=by
 have Q:=kC P bn;have h1:=nI (nH P) C M;generalize bV P=w at *;clear M;rcases O with rfl|rfl|rfl|rfl|rfl|rfl|rfl|rfl|rfl <;>
 ((refine mn Tryz.func57 Tryz.call57 fun β hf=>?_);(repeat' (first|refine mY ?_|(refine zc ?_ ?_<;>intro h<;>first|(cases h;done)|rw[h]|skip)|refine uC rfl Q ?_|refine sY ?_ (hq:=h1)|refine sY ?_ (hq:=u)|((first|refine zt ?_|refine zu ?_ ?_)<;>intro h<;>(fail_if_success (cases h;done))<;>rw[h])));(all_goals rfl))
end Go.Proofs
