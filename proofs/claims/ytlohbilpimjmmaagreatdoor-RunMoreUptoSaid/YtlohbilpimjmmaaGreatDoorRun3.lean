/- The machine of package run: its state, and how it lies in memory. What the small methods of package run's machine do: pay, pop, enter. What take of package run's machine does. What put of package run's machine does. -/
import Derived.Test.YtlohbilpimjmmaaGreatDoorKind5
import Derived.Test.YtlohbilpimjmmaaGreatDoorCtx
import Derived.Test.YtlohbilpimjmmaaGreatDoorVal1
set_option maxHeartbeats 0
set_option linter.unusedVariables false
set_option linter.unusedSimpArgs false
namespace Go.Proofs
open Go.cq
def rH (f:fO):CV := .agg [.sl 5 (aI f.code),aF (f.pos:Nat),aF f.fin,.sl 7 (aa f.aside)]
def mW:List fO->List CV
 | []=>[]
 | f::l=>rH f::mW l
theorem vv:∀a b:List fO,mW (a++b)=mW a++mW b
 | [],_=>rfl
 | f::a,b=>by simp only[List.cons_append,mW,vv a b]
theorem vw:∀l:List fO,(mW l).length=l.length
 | []=>rfl
 | f::l=>by simp only[mW,aac,vw l]
theorem kF:∀a b:List Vl,aa (a++b)=aa a++aa b
 | [],_=>rfl
 | f::a,b=>by simp only[List.cons_append,aa,kF a b]
def sR (l:List Vl):List CV:=aa l.reverse
def fR (l:List fO):List CV:=mW l.reverse
theorem Hj (v:Vl) (l:List Vl):sR (v::l)=sR l++[bM v]:=by simp only[sR,List.reverse_cons,kF];rfl
theorem Cd (f:fO) (l:List fO):fR (f::l)=fR l++[rH f]:=by simp only[fR,List.reverse_cons,vv];rfl
theorem iS (l:List Vl):(sR l).length=l.length:=by simp only[sR,az,aaH]
theorem xZ (l:List fO):(fR l).length=l.length:=by simp only[fR,vw,aaH]
theorem gd:∀(l:List Vl),∀r∈aa l,r.cells.length=7
 | [],r,h=>by simp[aa]at h
 | .mk _ _ _ _ _ _ _::l,r,h=>by
  simp only[aa,List.mem_cons]at h;rcases h with rfl|h
  ·rfl
  ·exact gd l r h
theorem Bv:∀(l:List fO),∀r∈mW l,r.cells.length=4
 | [],r,h=>by simp[mW]at h
 | f::l,r,h=>by
  simp only[mW,List.mem_cons]at h;rcases h with rfl|h
  ·rfl
  ·exact Bv l r h
theorem td (l:List Vl):(bI (sR l)).length=l.length*7:=by rw[dh (rows:=sR l) (s:=7) (gd _),iS]
theorem Ce (l:List fO):(bI (fR l)).length=l.length*4:=by rw[dh (rows:=fR l) (s:=4) (Bv _),xZ]
def mC (S:bT) (a b:Nat):List AV:=[.c (aF S.self),.c (aF S.gO),.c (aF S.gP),.c (aF S.balance),.gv a 0 7 S.st.length,.gv b 0 4 S.fr.length,.c (aF S.gX),.c (aF S.used),.c (aF S.bE),
 .c (aF (vK S.said)),.c (aF (vN S.said)),.c (aF (xA S.said)),.c (.str (vS S.said)),.c (.sl 7 (aa (eC S.said))),.c (.sl 2 (aq (JE S.said))),.c (.sl 5 (aI (rZ S.said)))]
theorem DN (S:bT):MC (mC S):=⟨fun ρ ts a b q P h1 h2=>⟨_,_,rfl,.inl rfl,_,_,rfl,.inl rfl,_,_,rfl,.inl rfl,_,_,rfl,.inl rfl,_,_,rfl,⟨_,h1,rfl⟩,_,_,rfl,⟨_,h2,rfl⟩,_,_,rfl,.inl rfl,_,_,rfl,.inl rfl,_,_,rfl,.inl rfl,
  _,_,rfl,.inl rfl,_,_,rfl,.inl rfl,_,_,rfl,.inl rfl,_,_,rfl,.inl rfl,_,_,rfl,.inl rfl,_,_,rfl,.inl rfl,_,_,rfl,.inl rfl,rfl⟩,fun _ _ _=>rfl,fun us a b h1 h2=>by simp only[mC,wX,Mv,both,h1,h2]⟩
def LB (S:bT) (_ b:Nat):List AV:=[.c (aF S.self),.c (aF S.gO),.c (aF S.gP),.c (aF S.balance),.c (.sl 7 (sR S.st)),.gv b 0 4 S.fr.length,.c (aF S.gX),.c (aF S.used),.c (aF S.bE),
 .c (aF (vK S.said)),.c (aF (vN S.said)),.c (aF (xA S.said)),.c (.str (vS S.said)),.c (.sl 7 (aa (eC S.said))),.c (.sl 2 (aq (JE S.said))),.c (.sl 5 (aI (rZ S.said)))]
theorem DO (S:bT):∀(ρ:Ren) (ts:List (Nat×Nat)) (b P:Nat),ρ.bx b=some P->fu ρ ts (LB S 0 b) (LB S 0 P):=fun ρ ts b P h2=>⟨_,_,rfl,.inl rfl,_,_,rfl,.inl rfl,_,_,rfl,.inl rfl,_,_,rfl,.inl rfl,_,_,rfl,.inl rfl,_,_,rfl,⟨_,h2,rfl⟩,_,_,rfl,.inl rfl,_,_,rfl,.inl rfl,_,_,rfl,.inl rfl,
  _,_,rfl,.inl rfl,_,_,rfl,.inl rfl,_,_,rfl,.inl rfl,_,_,rfl,.inl rfl,_,_,rfl,.inl rfl,_,_,rfl,.inl rfl,_,_,rfl,.inl rfl,rfl⟩
theorem Gf (S:bT):∀(us:List Nat) (b:Nat),mem b us=true->wX us (LB S 0 b)=true:=fun us b h=>by simp only[LB,wX,Mv,both,h]
theorem Tj (S:bT):MC (LB S):=⟨fun ρ ts a b q P _ h2=>DO S ρ ts b P h2,fun _ _ _=>rfl,fun us a b _ h2=>Gf S us b h2⟩
def cC (f:FuncId) (S:bT) (args:List AV) (r:CV) (S':bT):Prop :=
 rV f (mI (mC S) (bI (sR S.st)) (bI (fR S.fr))) (.ptr 1000000 0::args) (.c r) (mO (mC S') (bI (sR S'.st)) (bI (fR S'.fr)))
abbrev iD (f:FuncId) (S:bT) (args:List AV) (o:Int×bT):Prop:=cC f S args (aF o.1) o.2
def HF (f:FuncId) (S:bT) (args:List AV) (r:CV) (S':bT):Prop :=
 rV f (mI1 (LB S) (bI (fR S.fr))) (.ptr 1000000 0::args) (.c r) (mO1 (LB S') (bI (fR S'.fr)))
theorem Tk {f:FuncId} {n:Nat} {β:jG} {K:List Item} (U:(∃V,K = .code .ret::V)\/K=[]) {env:Env} {Y:Func} (hf:Tryz.prog.funcs[f]?=some Y) {bs:List (Nat×List AV)} {ts:List (Nat×Nat)} {us:List Nat} {l:List AV} (I:tg Tryz.X bs env Y.results.toList=some l)
  {v:CV} (S:close (BS l)=some v) {S':bT} {a b:Nat} {cells T W:List AV} (h1:ak 1000000 bs=some cells) (C:cells=mC S' a b) (h2:ak a bs=some T) (Q:T=ah (sR S'.st)) (P:ak b bs=some W) (B:W=ah (fR S'.fr)) (p:Go.cq.distinct [1000000,a,b]=true) {r:CV} (O:v=r) :
  EK f n β (HR β (.c r) (mO (mC S') (bI (sR S'.st)) (bI (fR S'.fr)))) K env ⟨bs,ts,us⟩:=by
 subst C Q B O;refine AK.Da U Tryz.hX hf I [(1000000,1000000),(999991,a),(999992,b)] ?_ (.inr S) ⟨⟨_,_,rfl,h1,(DN S').conv _ _ _ _ _ _ rfl rfl⟩,⟨_,_,rfl,h2,dz _⟩,⟨_,_,rfl,P,dz _⟩,trivial⟩;unfold vq;rw[show([(1000000,1000000),(999991,a),(999992,b)]:List (Nat×Nat)).map (·.2)=[1000000,a,b]from rfl,p];rfl
theorem RO {f:FuncId} {n:Nat} {β:jG} {K:List Item} {env:Env} {Y:Func} (hf:Tryz.prog.funcs[f]?=some Y) {bs:List (Nat×List AV)} {ts:List (Nat×Nat)} {us:List Nat} {l:List AV} (I:tg Tryz.X bs env Y.results.toList=some l)
  {v:CV} (V:close (BS l)=some v) {S':bT} {a b:Nat} {cells T W:List AV} (h1:ak 1000000 bs=some cells) (C:cells=mC S' a b) (h2:ak a bs=some T) (U:T=ah (sR S'.st)) (P:ak b bs=some W) (B:W=ah (fR S'.fr)) (p:Go.cq.distinct [1000000,a,b]=true) {r:CV} (S:v=r) :
  EK f n β (HR β (.c r) (mO (mC S') (bI (sR S'.st)) (bI (fR S'.fr)))) (.code .ret::K) env ⟨bs,ts,us⟩ :=
 Tk (.inl ⟨_,rfl⟩) hf I V h1 C h2 U P B p S
theorem Xe {f:FuncId} {n:Nat} {β:jG} {env:Env} {Y:Func} (hf:Tryz.prog.funcs[f]?=some Y) {bs:List (Nat×List AV)} {ts:List (Nat×Nat)} {us:List Nat} {l:List AV} (I:tg Tryz.X bs env Y.results.toList=some l)
  {v:CV} (V:close (BS l)=some v) {S':bT} {a b:Nat} {cells T W:List AV} (h1:ak 1000000 bs=some cells) (C:cells=mC S' a b) (h2:ak a bs=some T) (U:T=ah (sR S'.st)) (P:ak b bs=some W) (B:W=ah (fR S'.fr)) (p:Go.cq.distinct [1000000,a,b]=true) {r:CV} (S:v=r) :
  EK f n β (HR β (.c r) (mO (mC S') (bI (sR S'.st)) (bI (fR S'.fr)))) [] env ⟨bs,ts,us⟩ :=
 Tk (.inr rfl) hf I V h1 C h2 U P B p S
theorem aae {f:FuncId} {n:Nat} {β:jG} {env:Env} {Y:Func} (hf:Tryz.prog.funcs[f]?=some Y) {bs:List (Nat×List AV)} {ts:List (Nat×Nat)} {us:List Nat} {l:List AV} (I:tg Tryz.X bs env Y.results.toList=some l)
  {v:CV} (V:close (BS l)=some v) {S':bT} {b:Nat} {cells W:List AV} (h1:ak 1000000 bs=some cells) (C:cells=LB S' 0 b) (P:ak b bs=some W) (B:W=ah (fR S'.fr)) (p:Go.cq.distinct [1000000,b]=true) {r:CV} (U:v=r) :
  EK f n β (HR β (.c r) (mO1 (LB S') (bI (fR S'.fr)))) [] env ⟨bs,ts,us⟩:=by
 subst C B U;refine AK.Da (.inr rfl) Tryz.hX hf I [(1000000,1000000),(999992,b)] ?_ (.inr V) ⟨⟨_,_,rfl,h1,DO S' _ _ _ _ rfl⟩,⟨_,_,rfl,P,dz _⟩,trivial⟩;unfold vq;rw[show([(1000000,1000000),(999992,b)]:List (Nat×Nat)).map (·.2)=[1000000,b]from rfl,p];rfl
theorem uM {ops:Array Oper} {o:Oper} {rest:List Oper} {env:Env} {acc:List Fp} {Q:Env->St->List Fp->Prop} {bs:List (Nat×List AV)} {ts:List (Nat×Nat)} {us:List Nat} (O:cU ops.toList kn env o=some true) {f:FuncId} {args:Array Operand} {E:Array TypeId} (p:o.op = .call {callee := .value (.func f),args:=args,argTypes:=E})
  {S S':bT} {W:List AV} {r:CV} (hq:cC f S W r S') {d:Nat} (H:o.dst=some d)
  {l:List AV} (A:gG (aL Tryz.X env) args.toList=some l) {U:Nat} {u:List AV} (Y:l = .ptr U 0::u) {D G:Nat} {V T P:List AV} (h1:ak U bs=some V) (C:V=mC S D G) (h2:ak D bs=some T) (K:T=ah (sR S.st)) (N:ak G bs=some P) (B:P=ah (fR S.fr))
  (M:∀ts,fu ⟨fun k=>ak k [(1000000,U),(1000001,D),(1000002,G)],fun _=>none⟩ ts W u) (J:vr us U D G (100000+d) (200000+d)=true)
  {bs':List (Nat×List AV)} (I:lZ [U,D,G] bs=bs')
  (k:oH ops rest ((d,.c r)::env) ⟨(U,mC S' (100000+d) (200000+d))::(100000+d,ah (sR S'.st))::(200000+d,ah (fR S'.fr))::bs',ts,U::(100000+d)::(200000+d)::us⟩ (⟨[],[U,D,G,U,100000+d,200000+d,U,100000+d,200000+d]⟩::acc) Q):oH ops (o::rest) env ⟨bs,ts,us⟩ acc Q:=by
 subst Y;exact ai.aaa kn O p hq (DN S) (DN S') H A rfl h1 C h2 K N B (fun ts=>⟨_,_,rfl,⟨_,fe,rfl⟩,M ts⟩) J rfl rfl I k
theorem uM1 {ops:Array Oper} {o:Oper} {rest:List Oper} {env:Env} {acc:List Fp} {Q:Env->St->List Fp->Prop} {bs:List (Nat×List AV)} {ts:List (Nat×Nat)} {us:List Nat} (T:cU ops.toList kn env o=some true) {f:FuncId} {args:Array Operand} {E:Array TypeId} (p:o.op = .call {callee := .value (.func f),args:=args,argTypes:=E})
  {S S':bT} {W:List AV} {r:CV} (hq:HF f S W r S') {d:Nat} (H:o.dst=some d)
  {l:List AV} (A:gG (aL Tryz.X env) args.toList=some l) {U:Nat} {u:List AV} (Y:l = .ptr U 0::u) {G:Nat} {D V:List AV} (h1:ak U bs=some D) (C:D=LB S 0 G) (P:ak G bs=some V) (B:V=ah (fR S.fr))
  (O:∀ts,fu ⟨fun k=>ak k [(1000000,U),(1000002,G)],fun _=>none⟩ ts W u) (N:wE us U G (200000+d)=true)
  {bs':List (Nat×List AV)} (M:lZ [U,G] bs=bs')
  (k:oH ops rest ((d,.c r)::env) ⟨(U,LB S' 0 (200000+d))::(200000+d,ah (fR S'.fr))::bs',ts,U::(200000+d)::us⟩ (⟨[],[U,G,U,200000+d,U,200000+d]⟩::acc) Q):oH ops (o::rest) env ⟨bs,ts,us⟩ acc Q:=by
 subst Y;exact ai.XQ kn T p hq (Tj S) (Tj S') (DO S) (Gf S') (fun _ _=>rfl) H A rfl h1 C P B (fun ts=>⟨_,_,rfl,⟨_,fe,rfl⟩,O ts⟩) N rfl rfl M k
theorem cvA {ρ:Ren} {ts:List (Nat×Nat)} {v:CV} {a:AV} {l m:List AV} (h:close a=some v) (E:fu ρ ts l m):fu ρ ts (.c v::l) (a::m):=⟨_,_,rfl,.inr h,E⟩
theorem cvP {ρ:Ren} {ts:List (Nat×Nat)} {k k' o:Nat} {l m:List AV} (h:ρ.bx k=some k') (E:fu ρ ts l m):fu ρ ts (.ptr k o::l) (.ptr k' o::m):=⟨_,_,rfl,⟨_,h,rfl⟩,E⟩
theorem XT {ops:Array Oper} {o:Oper} {rest:List Oper} {env:Env} {acc:List Fp} {Q:Env->St->List Fp->Prop} {bs:List (Nat×List AV)} {ts:List (Nat×Nat)} {us:List Nat} {f:FuncId} {args:Array Operand} {E:Array TypeId} {S S':bT} {W:List AV} {r:CV} {d:Nat} {l:List AV} {U:Nat} {u:List AV} {G:Nat} {D V:List AV} {bs':List (Nat×List AV)} (k:oH ops rest ((d,.c r)::env) ⟨(U,LB S' 0 (200000+d))::(200000+d,ah (fR S'.fr))::bs',ts,U::(200000+d)::us⟩ (⟨[],[U,G,U,200000+d,U,200000+d]⟩::acc) Q) (T:cU ops.toList kn env o=some true:=by exact rfl) (p:o.op = .call {callee := .value (.func f),args:=args,argTypes:=E}:=by exact rfl) (hq:HF f S W r S':=by assumption) (H:o.dst=some d:=by exact rfl) (A:gG (aL Tryz.X env) args.toList=some l:=by exact rfl) (Y:l = .ptr U 0::u:=by exact rfl) (h1:ak U bs=some D:=by exact rfl) (C:D=LB S 0 G:=by exact rfl) (P:ak G bs=some V:=by exact rfl) (B:V=ah (fR S.fr):=by exact rfl) (O:∀ts,fu ⟨fun k=>ak k [(1000000,U),(1000002,G)],fun _=>none⟩ ts W u:=by intro _;repeat' (first|exact rfl|refine cvA rfl ?_|refine cvP rfl ?_)) (N:wE us U G (200000+d)=true:=by exact rfl) (M:lZ [U,G] bs=bs':=by exact rfl): oH ops (o::rest) env ⟨bs,ts,us⟩ acc Q:=uM1 T p hq H A Y h1 C P B O N M k
def Tl:Nat->List AV->Env
 | _,[]=>[]
 | i,c::l=>(i,c)::Tl (i+1) l
theorem OA:∀(i:Nat) (l:List AV),Tl i l=((l.zipIdx i).map fun(v,i)=>(i,v))
 | _,[]=>rfl
 | i,c::l=>by simp only[Tl,List.zipIdx_cons,List.map_cons,OA (i+1) l]
theorem mn {f:FuncId} {Y:Func} {c:Code} {S S':bT} {args:List AV} {r:CV} {env:Env} (hf:Tryz.prog.funcs[f]?=some Y) (P:Enters Tryz.prog f) (k:∀β,Tryz.prog.funcs[f]?=some Y->EK f Y.ntmps β (HR β (.c r) (mO (mC S') (bI (sR S'.st)) (bI (fR S'.fr)))) [.code c] env ⟨[(1000000,mC S 1000001 1000002),(1000001,ah (sR S.st)),(1000002,ah (fR S.fr))],[],[1000000,1000001,1000002]⟩) (G:Y.body=some c:=by exact rfl) (W:(AV.ptr 1000000 0::args).length<=Y.ntmps:=by exact Nat.le_of_ble_eq_true rfl) (V:Tl 0 (AV.ptr 1000000 0::args)=env:=by simp only[Tl];try exact rfl):cC f S args r S':=dI.of hf G P W env _ (by rw[<- V,OA]) rfl fun β=>k β hf
theorem dm {p:Prop} (h:p:=by(repeat' (first|refine st ?_|(refine AK.CP rfl (fun h=>?_) (fun h=>?_)<;>first|(cases h;done)|rw[h]|skip)|refine AK.pJ rfl ?_ ?_|refine uC rfl (by assumption) ?_|refine uI rfl _ rfl (by assumption) rfl ?_|refine uI rfl 0 rfl (by assumption) rfl ?_|refine uI rfl 1 rfl (by assumption) rfl ?_|refine uI rfl 0 rfl rfl rfl ?_|refine uI rfl 1 rfl rfl rfl ?_|refine uI rfl 2 rfl rfl rfl ?_|refine uI rfl 3 rfl rfl rfl ?_|refine tc ?_|refine XT ?_|(first|refine ai.quo Tryz.hX kn rfl rfl rfl rfl rfl rfl rfl ((by decide)) ?_|refine ai.rem Tryz.hX kn rfl rfl rfl rfl rfl rfl rfl ((by decide)) ?_)|(refine uA rfl ?_ ?_<;>(try (show(_:Nat)*_<=_;dsimp only)))|refine ai.toStr Tryz.hX kn rfl rfl rfl rfl rfl rfl rfl rfl rfl rfl rfl (by first|exact rfl|exact w8 _) rfl ?_|((first|refine ai.uF rfl rfl rfl ED (fun h=>?_)|refine ai.uG rfl rfl rfl ED (fun h=>?_)|refine ai.split rfl rfl rfl (fun h=>?_) (fun h=>?_))<;>(fail_if_success (cases h;done))<;>rw[h])|refine RO hf rfl rfl rfl rfl rfl rfl rfl rfl rfl ?_|refine Xe hf rfl rfl rfl rfl rfl rfl rfl rfl rfl ?_))<;>rfl):p:=h
theorem dnm {p q:Prop} (k:q) (h:q->p:=by intro k;(repeat' (first|refine st ?_|(refine AK.CP rfl (fun h=>?_) (fun h=>?_)<;>first|(cases h;done)|rw[h]|skip)|refine AK.pJ rfl ?_ ?_|refine uC rfl (by assumption) ?_|refine uI rfl _ rfl (by assumption) rfl ?_|refine uI rfl 0 rfl (by assumption) rfl ?_|refine uI rfl 1 rfl (by assumption) rfl ?_|refine uI rfl 0 rfl rfl rfl ?_|refine uI rfl 1 rfl rfl rfl ?_|refine uI rfl 2 rfl rfl rfl ?_|refine uI rfl 3 rfl rfl rfl ?_|refine tc ?_|refine XT ?_|(first|refine ai.quo Tryz.hX kn rfl rfl rfl rfl rfl rfl rfl ((by decide)) ?_|refine ai.rem Tryz.hX kn rfl rfl rfl rfl rfl rfl rfl ((by decide)) ?_)|(refine uA rfl ?_ ?_<;>(try (show(_:Nat)*_<=_;dsimp only)))|refine ai.toStr Tryz.hX kn rfl rfl rfl rfl rfl rfl rfl rfl rfl rfl rfl (by first|exact rfl|exact w8 _) rfl ?_|((first|refine ai.uF rfl rfl rfl ED (fun h=>?_)|refine ai.uG rfl rfl rfl ED (fun h=>?_)|refine ai.split rfl rfl rfl (fun h=>?_) (fun h=>?_))<;>(fail_if_success (cases h;done))<;>rw[h])|refine RO hf rfl rfl rfl rfl rfl rfl rfl rfl rfl ?_|refine Xe hf rfl rfl rfl rfl rfl rfl rfl rfl rfl ?_))<;>first|exact rfl|exact k):p:=h k
theorem tc {ops:Array Oper} {o:Oper} {rest:List Oper} {env:Env} {acc:List Fp} {Q:Env->St->List Fp->Prop} {bs:List (Nat×List AV)} {ts:List (Nat×Nat)} {us:List Nat} {f:FuncId} {args:Array Operand} {E:Array TypeId} {S S':bT} {W:List AV} {r:CV} {d:Nat} {l:List AV} {U:Nat} {u:List AV} {D G:Nat} {V T P:List AV} {bs':List (Nat×List AV)} (k:oH ops rest ((d,.c r)::env) ⟨(U,mC S' (100000+d) (200000+d))::(100000+d,ah (sR S'.st))::(200000+d,ah (fR S'.fr))::bs',ts,U::(100000+d)::(200000+d)::us⟩ (⟨[],[U,D,G,U,100000+d,200000+d,U,100000+d,200000+d]⟩::acc) Q) (O:cU ops.toList kn env o=some true:=by exact rfl) (p:o.op = .call {callee := .value (.func f),args:=args,argTypes:=E}:=by exact rfl) (hq:cC f S W r S':=by assumption) (H:o.dst=some d:=by exact rfl) (A:gG (aL Tryz.X env) args.toList=some l:=by exact rfl) (Y:l = .ptr U 0::u:=by exact rfl) (h1:ak U bs=some V:=by exact rfl) (C:V=mC S D G:=by exact rfl) (h2:ak D bs=some T:=by exact rfl) (K:T=ah (sR S.st):=by exact rfl) (N:ak G bs=some P:=by exact rfl) (B:P=ah (fR S.fr):=by exact rfl) (M:∀ts,fu ⟨fun k=>ak k [(1000000,U),(1000001,D),(1000002,G)],fun _=>none⟩ ts W u:=by intro _;repeat' (first|exact rfl|refine cvA rfl ?_|refine cvP rfl ?_)) (J:vr us U D G (100000+d) (200000+d)=true:=by exact rfl) (I:lZ [U,D,G] bs=bs':=by exact rfl): oH ops (o::rest) env ⟨bs,ts,us⟩ acc Q:=uM O p hq H A Y h1 C h2 K N B M J I k
theorem HG (k n a:Int) (s:List UInt8) (args:List Vl) (B:List Ty) (H:List Nd) (t:List Vl):gr (0+t.length*7) (ah (sR (.mk k n a s args B H::t))) =
  some [.c (aF k),.c (aF n),.c (aF a),.c (.str s),.c (.sl 7 (aa args)),.c (.sl 2 (aq B)),.c (.sl 5 (aI H))]:=by
 rw[Hj,ah,dy,List.map_append,Nat.zero_add,<- td,<- List.length_map (f:=AV.c),we];rfl
theorem x8 (f:fO) (t:List fO):gr (0+t.length*4) (ah (fR (f::t)))=some [.c (.sl 5 (aI f.code)),.c (aF (f.pos:Nat)),.c (aF f.fin),.c (.sl 7 (aa f.aside))]:=by
 rw[Cd,ah,dy,List.map_append,Nat.zero_add,<- Ce,<- List.length_map (f:=AV.c),we];rfl
theorem DP (v:Vl) (t:List Vl):ah (sR (v::t))=ah (sR t)++ah [bM v]:=by rw[Hj,ah,dy,List.map_append]
theorem lS (f:fO) (t:List fO):ah (fR (f::t))=ah (fR t)++ah [rH f]:=by rw[Cd,ah,dy,List.map_append]
theorem MB (k n a:Int) (s:List UInt8) (args:List Vl) (B:List Ty) (H:List Nd) (t:List Vl) (z:CV) (W:z.cells.length=7):dK (0+t.length*7) [.c (aF k),.c (aF n),.c (aF a),.c (.str s),.c (.sl 7 (aa args)),.c (.sl 2 (aq B)),.c (.sl 5 (aI H))] (ah (sR t++[z])) =
  some (ah (sR (.mk k n a s args B H::t))):=by
 rw[DP,ah,dy,List.map_append,Nat.zero_add,<- td,<- List.length_map (f:=AV.c)];have u:∀(p x y:List AV),x.length=y.length->dK p.length x (p++y)=some (p++x):=by
  intro p x y h
  induction p with
  | nil=>exact Bs x y h
  | cons q p S =>
   cases x with
   | nil=>cases y with
    | nil=>simp only[aac,List.cons_append,dK]
    | cons _ _=>simp at h
   | cons A x=>simp only[aac,List.cons_append,dK,S]
 exact u _ _ _ (by simp only[bI,List.append_nil,List.length_map,W];rfl)
theorem Hi (us:List Nat):∀l:List CV,y8 us (l.map AV.c)=true
 | []=>rfl
 | c::l=>by simp only[List.map_cons,y8,SO];exact Hi us l
theorem Ol {us:List Nat} {k:Nat} {a:List AV} {l:List (Nat×List AV)} (h1:mem k us=true) (h2:y8 us a=true) (V:okB us l=true):okB us ((k,a)::l)=true:=by
 simp only[okB,h1,h2];exact V
theorem XU (S:bT) {us:List Nat} {a b:Nat} (h1:mem a us=true) (h2:mem b us=true):y8 us (mC S a b)=true:=by simp only[mC,y8,SO,h1,h2]
theorem XV (S:bT) {us:List Nat} {U a b:Nat} (N:mem U us=true) (h1:mem a us=true) (h2:mem b us=true):okB us [(U,mC S a b),(a,ah (sR S.st)),(b,ah (fR S.fr))]=true :=
 Ol N (XU S h1 h2) (Ol h1 (Hi _ _) (Ol h2 (Hi _ _) rfl))
theorem WA {S:bT} {bx:List (Nat×Nat)} {tk:List (Nat×(Nat×Option Nat))} {ts:List (Nat×Nat)} {bs:List (Nat×List AV)} {U a b Y q P:Nat} {D T W:List AV} (N:ak U bx=some Y) (h1:ak a bx=some q) (h2:ak b bx=some P) (u:ak Y bs=some D) (V:D=mC S q P) (C:ak q bs=some T) (q1:T=ah (sR S.st)) (K:ak P bs=some W) (A:W=ah (fR S.fr)) :
  F6 ⟨fun k=>ak k bx,fun k=>ak k tk⟩ ts bs [(U,mC S a b),(a,ah (sR S.st)),(b,ah (fR S.fr))]:=by
 subst V q1 A;exact⟨⟨_,_,N,u,(DN S).conv _ _ _ _ _ _ h1 h2⟩,⟨_,_,h1,C,dz _⟩,⟨_,_,h2,K,dz _⟩,trivial⟩
end Go.Proofs
set_option maxRecDepth 100000
namespace Go.Proofs
open Go.cq
attribute [local irreducible] AK ai bh bt dI
theorem XW (S:bT) (h:S.gX<=S.used):cC 56 S [] (aF 12) S:=by
 have E:decide (S.used>=S.gX)=true:=aam h;refine mn Tryz.func56 Tryz.call56 fun β hf=>?_;exact dm
theorem XX (S:bT) (h:S.used<S.gX) (h1:OB S.gX) (h2:0<=S.used):cC 56 S [] (aF 0) {S with used:=S.used+1}:=by
 have E:decide (S.used>=S.gX)=false:=aan bn;have O:IntKind.i64.wrap (S.used+1)=S.used+1:=gW bn (by have:=h1.2;omega);refine mn Tryz.func56 Tryz.call56 fun β hf=>?_
 repeat' (first|refine nj ?_|(refine zc ?_ ?_<;>intro h<;>first|(cases h;done)|rw[h]|skip))
 rw[O];exact RO hf rfl rfl rfl rfl rfl rfl rfl rfl rfl rfl
theorem Vx (S:bT) (h:S.st=[]):cC 80 S [] (.gy [bM oL,.bool false]) S:=by
 obtain⟨a,b,c,d,st,fr,g,u,m,said⟩:=S;simp only at h;subst h;have E:decide (IntKind.i64.wrap (((([]:List Vl).length:Nat):Int)-1)<0)=true:=by decide
 refine mn Tryz.func80 Tryz.call80 fun β hf=>?_;exact dm
theorem Tm (S:bT) (v:Vl) (t:List Vl) (h:S.st=v::t) (A:t.length<=1099511627776):cC 80 S [] (.gy [bM v,.bool true]) {S with st:=t}:=by
 obtain⟨a,b,c,d,st,fr,g,u,m,said⟩:=S;simp only at h;subst h;have O:IntKind.i64.wrap ((((v::t).length:Nat):Int)-1)=(t.length:Nat):=by
  rw[gW dZ dZ];simp only[aac];omega
 have E:decide (IntKind.i64.wrap ((((v::t).length:Nat):Int)-1)<0)=false:=by rw[O];exact aan bn
 obtain⟨k,n,C,s,args,B,H⟩:=v;have Y:=HG k n C s args B H t;refine mn Tryz.func80 Tryz.call80 fun β hf=>?_
 repeat' (first|refine nj ?_|(refine zc ?_ ?_<;>intro h<;>first|(cases h;done)|rw[h]|skip)|refine ai.jf Tryz.hX kn rfl rfl rfl rfl rfl rfl rfl rfl rfl t.length O (Nat.lt_succ_self _) ?_|refine ai.gE Tryz.hX kn rfl rfl rfl rfl rfl rfl Y rfl ?_|refine ai.Cc Tryz.hX kn rfl rfl rfl rfl rfl rfl rfl rfl rfl rfl rfl rfl t.length O (Nat.le_succ _) ?_)
 refine AK.vt 1000001 (ah (sR t)) _ rfl (DP _ _) rfl ?_;exact RO hf rfl rfl rfl rfl rfl rfl rfl rfl rfl rfl
theorem uV (S:bT) (H:List Nd) (fin:Int) (u:List Vl) (A:S.fr.length<=1099511627776):cC 55 S [.c (.sl 5 (aI H)),.c (aF fin),.c (.sl 7 (aa u))] .undef {S with fr:=⟨H,0,fin,u⟩::S.fr}:=by
 refine mn Tryz.func55 Tryz.call55 fun β hf=>?_
 repeat' (first|refine nj ?_|refine ai.mL Tryz.hX kn rfl rfl rfl rfl rfl rfl rfl rfl rfl rfl rfl rfl rfl rfl rfl (fR S.fr) [] (List.append_nil _).symm (xZ _).symm (Ce _) rfl rfl rfl rfl rfl rfl rfl (show((fR S.fr).length+1)*64<=_ by rw[xZ];omega) (Cd ⟨H,0,fin,u⟩ S.fr).symm (xZ _) rfl ?_|(refine uA rfl ?_ ?_<;>(try (show(_:Nat)*_<=_;dsimp only))))
 all_goals rfl
theorem HH (S:bT) (H:List Nd) (fin:Int) (u:List Vl) (A:S.fr.length<=1099511627776):HF 55 S [.c (.sl 5 (aI H)),.c (aF fin),.c (.sl 7 (aa u))] .undef {S with fr:=⟨H,0,fin,u⟩::S.fr}:=by
 refine dI.of Tryz.func55 rfl (fun args w=>Tryz.call55 args w) (Nat.le_of_ble_eq_true rfl) [(0,.ptr 1000000 0),(1,.c (.sl 5 (aI H))),(2,.c (aF fin)),(3,.c (.sl 7 (aa u)))] ⟨[(1000000,LB (S) 0 1000002),(1000002,ah (fR (S).fr))],[],[1000000,1000002]⟩ rfl rfl fun β=>?_;have hf:=Tryz.func55
 repeat' (first|refine nj ?_|refine ai.mL Tryz.hX kn rfl rfl rfl rfl rfl rfl rfl rfl rfl rfl rfl rfl rfl rfl rfl (fR S.fr) [] (List.append_nil _).symm (xZ _).symm (Ce _) rfl rfl rfl rfl rfl rfl rfl (show((fR S.fr).length+1)*64<=_ by rw[xZ];omega) (Cd ⟨H,0,fin,u⟩ S.fr).symm (xZ _) rfl ?_|(refine uA rfl ?_ ?_<;>(try (show(_:Nat)*_<=_;dsimp only))))
 exact aae hf rfl rfl rfl rfl rfl rfl rfl rfl
end Go.Proofs
namespace Go.Proofs
open Go.cq
attribute [local irreducible] AK ai bh bt dI
theorem ME (S:bT) (n:Nat) (P:n<=3) (p:S.st.length<=1099511627776):cC 81 S [.c (aF (n:Nat))] (match gb n S.st with|some (l,_) => .gy [.sl 7 (aa l),.bool true]|none => .gy [.sl 0 [],.bool false]) {S with st:=match gb n S.st with|some (_,r)=>r|none=>[]}:=by
 generalize Y:gb n S.st=res;refine mn Tryz.func81 Tryz.call81 fun β hf=>?_;refine dnm ?_;refine AK.fW [(1000000,1000000),(3001,1000001),(3002,1000002)] [(3006,(0,none))] (env':=[(0,.ptr 1000000 0),(9,.c (aF (n:Nat))),(10,.c (aF (([]:List Vl).length:Nat))),(6,.own (.tok 3006 0) 7 (aa []))])
  (bs':=[(1000000,mC {S with st:=S.st} 3001 3002),(3001,ah (sR S.st)),(3002,ah (fR S.fr))]) (ts':=[(3006,0)]) (us':=[1000000,3001,3002,3006])
  ⟨⟨_,rfl,⟨_,rfl,rfl⟩⟩,⟨_,rfl,.inl rfl⟩,⟨_,rfl,.inl rfl⟩,⟨_,rfl,⟨_,rfl,.inl ⟨rfl,_,rfl,.inr rfl⟩⟩⟩,trivial⟩ (WA rfl rfl rfl rfl rfl rfl rfl rfl rfl) rfl ?_
 refine AK.eK (α:=List Vl×List Vl) (fun z=>res=(gb (n-z.1.length) z.2).map (fun q=>(z.1++q.1,q.2))/\z.1.length<=n/\z.2.length<=1099511627776) (fun z=>n-z.1.length)
  (fun z=>[(0,.ptr 1000000 0),(9,.c (aF (n:Nat))),(10,.c (aF (z.1.length:Nat))),(6,.own (.tok 3006 0) 7 (aa z.1))])
  (fun z=>[(1000000,mC {S with st:=z.2} 3001 3002),(3001,ah (sR z.2)),(3002,ah (fR S.fr))]) (fun _=>[(3006,0)]) [1000000,3001,3002,3006] ([],S.st)
  ⟨by rw[<- Y];simp only[aad,Nat.sub_zero,List.nil_append];cases gb n S.st<;>rfl,Nat.zero_le _,p⟩ ⟨.inl rfl,.inl rfl,.inl rfl,.inl rfl,trivial⟩ ⟨rfl,rfl,rfl,trivial⟩ ⟨rfl,trivial⟩ rfl (XV {S with st:=S.st} rfl rfl rfl) rfl ?_
 rintro⟨l,s⟩ ⟨h1,h2,V⟩ ih;simp only at h1 h2 V;by_cases U:l.length=n
 ·have E:decide (((l.length:Nat):Int)<((n:Nat):Int))=false:=aan bn;have I:res=some (l,s):=by rw[h1,U,Nat.sub_self];simp[gb]
  rw[I];clear ih;exact dm
 ·have E:decide (((l.length:Nat):Int)<((n:Nat):Int))=true:=aam bn;obtain⟨m,M⟩:∃m,n-l.length=m+1:=⟨n-l.length-1,bn⟩
  cases s with
  | nil =>
   have I:res=none:=by rw[h1,M];simp[gb]
   rw[I];clear ih;have N:=Vx {S with st:=[]} rfl;exact dm
  | cons v t =>
   simp only[aac]at V;have O:IntKind.i64.wrap (((l.length:Nat):Int)+1)=((l++[v]).length:Nat):=by
    rw[gW bn bn];simp only[aas,aac,aad];omega
   have I:res=(gb (n-(l++[v]).length) t).map (fun q=>(l++[v]++q.1,q.2)):=by
    rw[h1,M,show n-(l++[v]).length=m from by simp only[aas,aac,aad];omega];simp only[gb];cases gb m t<;>simp
   have T:(l++[v]).length<=n:=by simp only[aas,aac,aad];omega
   have Q:aa l++[bM v]=aa (l++[v]):=(kF l [v]).symm;have K:=az l;obtain⟨k,A,u,W,args,B,H⟩:=v
   repeat' (first|refine nj ?_|(refine zc ?_ ?_<;>intro h<;>first|(cases h;done)|rw[h]|skip)|refine tc ?_ (hq:=Tm {S with st := .mk k A u W args B H::t} _ _ rfl bn)|(refine uA rfl ?_ ?_<;>(try (show(_:Nat)*_<=_;dsimp only))))
   ·show(_:Nat)<=_;simp only[aac,aad];omega
   ·refine AK.fW [(1000000,1000000),(3001,100014),(3002,200014)] [(3006,(0,some 3006))] (env':=[(0,.ptr 1000000 0),(9,.c (aF (n:Nat))),(10,.c (aF ((l++[Vl.mk k A u W args B H]).length:Nat))),(6,.own (.tok 3006 0) 7 (aa (l++[Vl.mk k A u W args B H])))])
     (bs':=[(1000000,mC {S with st:=t} 3001 3002),(3001,ah (sR t)),(3002,ah (fR S.fr))]) (ts':=[(3006,0)]) (us':=[1000000,3001,3002,3006])
     ⟨⟨_,rfl,⟨_,rfl,rfl⟩⟩,⟨_,rfl,.inl rfl⟩,⟨_,rfl,.inl (congrArg (fun z=>AV.c (.int .i64 z)) O)⟩,⟨_,rfl,⟨_,rfl,.inr ⟨_,_,rfl,rfl,by rw[<- Q];rfl⟩⟩⟩,trivial⟩ (WA rfl rfl rfl rfl rfl rfl rfl rfl rfl) rfl ?_
    exact ih (l++[Vl.mk k A u W args B H],t) ⟨I,T,by show t.length<=_;omega⟩ (by show n-(l++[_]).length<n-l.length;simp only[aas,aac,aad];omega)
end Go.Proofs
namespace Go.Proofs
open Go.cq
theorem FL {l:List Vl} {i:Nat} {v:Vl} (h:l[i]?=some v):l.drop i=v::l.drop (i+1):=by
 obtain⟨h1,h2⟩:=List.getElem?_eq_some_iff.1 h;rw[List.drop_eq_getElem_cons h1,h2]
attribute [local irreducible] AK ai bh bt dI lB
theorem pR (S:bT) (l:List Vl) (N:∀v∈l,aM v<=8589934593) (yo:l.length<=1000) (hl:S.st.length+l.length<=549755813888):cC 107 S [.c (.sl 7 (aa l))] (aF (lI l S.st).1) {S with st:=(lI l S.st).2}:=by
 generalize W:lI l S.st=res;have P:=az l;refine mn Tryz.func107 Tryz.call107 fun β hf=>?_;refine dnm ?_;refine AK.fW [(1000000,1000000),(3001,1000001),(3002,1000002)] [] (env':=[(0,.ptr 1000000 0),(7,.c (.sl 7 (aa l))),(8,.c (aF ((aa l).length:Nat))),(9,.c (aF (0:Nat)))])
  (bs':=[(1000000,mC {S with st:=S.st} 3001 3002),(3001,ah (sR S.st)),(3002,ah (fR S.fr))]) (ts':=[]) (us':=[1000000,3001,3002])
  ⟨⟨_,rfl,⟨_,rfl,rfl⟩⟩,⟨_,rfl,.inl rfl⟩,⟨_,rfl,.inl rfl⟩,⟨_,rfl,.inl rfl⟩,trivial⟩ (WA rfl rfl rfl rfl rfl rfl rfl rfl rfl) rfl ?_
 refine AK.eK (α:=Nat×List Vl) (fun z=>res=lI (l.drop z.1) z.2/\z.1<=l.length/\z.2.length=S.st.length+z.1) (fun z=>l.length-z.1)
  (fun z=>[(0,.ptr 1000000 0),(7,.c (.sl 7 (aa l))),(8,.c (aF ((aa l).length:Nat))),(9,.c (aF (z.1:Nat)))])
  (fun z=>[(1000000,mC {S with st:=z.2} 3001 3002),(3001,ah (sR z.2)),(3002,ah (fR S.fr))]) (fun _=>[]) [1000000,3001,3002] (0,S.st)
  ⟨by rw[<- W];rfl,Nat.zero_le _,rfl⟩ ⟨.inl rfl,.inl rfl,.inl rfl,.inl rfl,trivial⟩ ⟨rfl,rfl,rfl,trivial⟩ trivial rfl (XV {S with st:=S.st} rfl rfl rfl) rfl ?_
 rintro⟨i,s⟩ ⟨h1,h2,M⟩ ih;simp only at h1 h2 M;by_cases K:i=l.length
 ·have E:decide (((i:Nat):Int)<(((aa l).length:Nat):Int))=false:=aan bn;have I:res=(0,s):=by rw[h1,K,List.drop_length];rfl
  rw[I];clear ih;exact dm
 ·have E:decide (((i:Nat):Int)<(((aa l).length:Nat):Int))=true:=aam bn;have C:i<l.length:=by omega
  obtain⟨v,U⟩:∃v,l[i]?=some v:=⟨_,List.getElem?_eq_getElem C⟩
  have T:=aaw U;have G:=N v T;have p:=FL U;have J:(aa l)[i]?=some (bM v):=by rw[jx,U];rfl
  obtain⟨k,A,u,Y,args,B,H⟩:=v;have Q:=DQ _ G;by_cases O:lB (.mk k A u Y args B H)>200
  ·have q:decide (((lB (.mk k A u Y args B H):Nat):Int)>200)=true:=aam bn;have I:res=(13,s):=by rw[h1,p];simp only[lI,O,if_true]
   rw[I];clear ih;exact dm
  ·have q:decide (((lB (.mk k A u Y args B H):Nat):Int)>200)=false:=aan bn;have I:res=lI (l.drop (i+1)) (.mk k A u Y args B H::s):=by rw[h1,p];simp only[lI,O,if_false]
   have D:IntKind.i64.wrap (((i:Nat):Int)+1)=((i+1:Nat):Int):=by rw[gW bn bn];omega
   have V:=MB k A u Y args B H s
   repeat' (first|refine nj ?_|(refine zc ?_ ?_<;>intro h<;>first|(cases h;done)|rw[h]|skip)|refine uI rfl (i) rfl (J) rfl ?_|refine uC rfl Q ?_|refine ai.mL Tryz.hX kn rfl rfl rfl rfl rfl rfl rfl rfl rfl rfl rfl rfl rfl rfl rfl (sR s) [] (List.append_nil _).symm (iS _).symm (td _) rfl rfl rfl rfl rfl rfl rfl (show((sR s).length+1)*112<=_ by rw[iS];omega) rfl (m:=s.length+1) (by rw[aas,iS];rfl) rfl ?_|refine ai.jf Tryz.hX kn rfl rfl rfl rfl rfl rfl rfl rfl rfl s.length rfl (Nat.lt_succ_self _) ?_|refine ai.store Tryz.hX kn rfl rfl rfl rfl rfl rfl rfl rfl rfl (V _ rfl) rfl ?_|(refine uA rfl ?_ ?_<;>(try (show(_:Nat)*_<=_;dsimp only))))
   refine AK.fW [(1000000,1000000),(3001,23),(3002,3002)] [] (env':=[(0,.ptr 1000000 0),(7,.c (.sl 7 (aa l))),(8,.c (aF ((aa l).length:Nat))),(9,.c (aF ((i+1:Nat):Int)))])
    (bs':=[(1000000,mC {S with st := .mk k A u Y args B H::s} 3001 3002),(3001,ah (sR (.mk k A u Y args B H::s))),(3002,ah (fR S.fr))]) (ts':=[]) (us':=[1000000,3001,3002])
    ⟨⟨_,rfl,⟨_,rfl,rfl⟩⟩,⟨_,rfl,.inl rfl⟩,⟨_,rfl,.inl rfl⟩,⟨_,rfl,.inl (congrArg (fun z=>AV.c (.int .i64 z)) D)⟩,trivial⟩ (WA rfl rfl rfl rfl rfl rfl rfl rfl rfl) rfl ?_
   exact ih (i+1,.mk k A u Y args B H::s) ⟨I,C,by show(_::s).length=_;simp only[aac];omega⟩ u6
end Go.Proofs
