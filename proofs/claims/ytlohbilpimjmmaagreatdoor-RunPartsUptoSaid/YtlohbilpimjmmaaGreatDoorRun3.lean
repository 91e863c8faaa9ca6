/- The machine of package run: its state, and how it lies in memory. What the small methods of package run's machine do: pay, pop, enter. What take of package run's machine does. What put of package run's machine does. -/
import Derived.Test.YtlohbilpimjmmaaGreatDoorKind5
import Derived.Test.YtlohbilpimjmmaaGreatDoorCtx
import Derived.Test.YtlohbilpimjmmaaGreatDoorVal1
set_option maxHeartbeats 0
set_option linter.unusedVariables false
set_option linter.unusedSimpArgs false
namespace Go.Proofs
open Go.cu
def rF (f:eO):CV := .agg [.sl 5 (aH f.code),aF (f.pos:Nat),aF f.fin,.sl 7 (aa f.aside)]
def mR:List eO->List CV
 | []=>[]
 | f::l=>rF f::mR l
theorem vp:∀a b:List eO,mR (a++b)=mR a++mR b
 | [],_=>rfl
 | f::a,b=>by simp only[List.cons_append,mR,vp a b]
theorem vq:∀l:List eO,(mR l).length=l.length
 | []=>rfl
 | f::l=>by simp only[mR,aaa,vq l]
theorem kz:∀a b:List Vl,aa (a++b)=aa a++aa b
 | [],_=>rfl
 | f::a,b=>by simp only[List.cons_append,aa,kz a b]
def sR (l:List Vl):List CV:=aa l.reverse
def fR (l:List eO):List CV:=mR l.reverse
theorem G4 (v:Vl) (l:List Vl):sR (v::l)=sR l++[bP v]:=by simp only[sR,List.reverse_cons,kz];rfl
theorem B7 (f:eO) (l:List eO):fR (f::l)=fR l++[rF f]:=by simp only[fR,List.reverse_cons,vp];rfl
theorem iR (l:List Vl):(sR l).length=l.length:=by simp only[sR,az,aaB]
theorem xS (l:List eO):(fR l).length=l.length:=by simp only[fR,vq,aaB]
theorem gk:∀(l:List Vl),∀r∈aa l,r.cells.length=7
 | [],r,h=>by simp[aa]at h
 | .mk _ _ _ _ _ _ _::l,r,h=>by
  simp only[aa,List.mem_cons]at h;rcases h with rfl|h
  ·rfl
  ·exact gk l r h
theorem Bp:∀(l:List eO),∀r∈mR l,r.cells.length=4
 | [],r,h=>by simp[mR]at h
 | f::l,r,h=>by
  simp only[mR,List.mem_cons]at h;rcases h with rfl|h
  ·rfl
  ·exact Bp l r h
theorem sZ (l:List Vl):(bK (sR l)).length=l.length*7:=by rw[dh (rows:=sR l) (s:=7) (gk _),iR]
theorem B8 (l:List eO):(bK (fR l)).length=l.length*4:=by rw[dh (rows:=fR l) (s:=4) (Bp _),xS]
def mC (S:bT) (a b:Nat):List AV:=[.c (aF S.self),.c (aF S.gU),.c (aF S.gV),.c (aF S.balance),.gy a 0 7 S.st.length,.gy b 0 4 S.fr.length,.c (aF S.gS),.c (aF S.used),.c (aF S.aU),
 .c (aF (vK S.said)),.c (aF (vN S.said)),.c (aF (xA S.said)),.c (.str (vS S.said)),.c (.sl 7 (aa (eo S.said))),.c (.sl 2 (aE (LX S.said))),.c (.sl 5 (aH (yI S.said)))]
theorem DK (S:bT):MC (mC S):=⟨fun ρ ts a b p M h1 h2=>⟨_,_,rfl,.inl rfl,_,_,rfl,.inl rfl,_,_,rfl,.inl rfl,_,_,rfl,.inl rfl,_,_,rfl,⟨_,h1,rfl⟩,_,_,rfl,⟨_,h2,rfl⟩,_,_,rfl,.inl rfl,_,_,rfl,.inl rfl,_,_,rfl,.inl rfl,
  _,_,rfl,.inl rfl,_,_,rfl,.inl rfl,_,_,rfl,.inl rfl,_,_,rfl,.inl rfl,_,_,rfl,.inl rfl,_,_,rfl,.inl rfl,_,_,rfl,.inl rfl,rfl⟩,fun _ _ _=>rfl,fun us a b h1 h2=>by simp only[mC,wP,Ml,both,h1,h2]⟩
def Lj (S:bT) (_ b:Nat):List AV:=[.c (aF S.self),.c (aF S.gU),.c (aF S.gV),.c (aF S.balance),.c (.sl 7 (sR S.st)),.gy b 0 4 S.fr.length,.c (aF S.gS),.c (aF S.used),.c (aF S.aU),
 .c (aF (vK S.said)),.c (aF (vN S.said)),.c (aF (xA S.said)),.c (.str (vS S.said)),.c (.sl 7 (aa (eo S.said))),.c (.sl 2 (aE (LX S.said))),.c (.sl 5 (aH (yI S.said)))]
theorem DL (S:bT):∀(ρ:Ren) (ts:List (Nat×Nat)) (b M:Nat),ρ.bx b=some M->fy ρ ts (Lj S 0 b) (Lj S 0 M):=fun ρ ts b M h2=>⟨_,_,rfl,.inl rfl,_,_,rfl,.inl rfl,_,_,rfl,.inl rfl,_,_,rfl,.inl rfl,_,_,rfl,.inl rfl,_,_,rfl,⟨_,h2,rfl⟩,_,_,rfl,.inl rfl,_,_,rfl,.inl rfl,_,_,rfl,.inl rfl,
  _,_,rfl,.inl rfl,_,_,rfl,.inl rfl,_,_,rfl,.inl rfl,_,_,rfl,.inl rfl,_,_,rfl,.inl rfl,_,_,rfl,.inl rfl,_,_,rfl,.inl rfl,rfl⟩
theorem F6 (S:bT):∀(us:List Nat) (b:Nat),mem b us=true->wP us (Lj S 0 b)=true:=fun us b h=>by simp only[Lj,wP,Ml,both,h]
theorem SZ (S:bT):MC (Lj S):=⟨fun ρ ts a b p M _ h2=>DL S ρ ts b M h2,fun _ _ _=>rfl,fun us a b _ h2=>F6 S us b h2⟩
def cE (f:FuncId) (S:bT) (args:List AV) (r:CV) (S':bT):Prop :=
 rU f (mI (mC S) (bK (sR S.st)) (bK (fR S.fr))) (.ptr 1000000 0::args) (.c r) (mO (mC S') (bK (sR S'.st)) (bK (fR S'.fr)))
abbrev iC (f:FuncId) (S:bT) (args:List AV) (o:Int×bT):Prop:=cE f S args (aF o.1) o.2
def Hu (f:FuncId) (S:bT) (args:List AV) (r:CV) (S':bT):Prop :=
 rU f (mI1 (Lj S) (bK (fR S.fr))) (.ptr 1000000 0::args) (.c r) (mO1 (Lj S') (bK (fR S'.fr)))
theorem S0 {f:FuncId} {n:Nat} {β:jH} {K:List Item} (P:(∃Y,K = .code .ret::Y)\/K=[]) {env:Env} {T:Func} (hf:Tryz.prog.funcs[f]?=some T) {bs:List (Nat×List AV)} {ts:List (Nat×Nat)} {us:List Nat} {l:List AV} (I:s8 Tryz.X bs env T.results.toList=some l)
  {v:CV} (W:close (BM l)=some v) {S':bT} {a b:Nat} {cells A S:List AV} (h1:ak 1000000 bs=some cells) (V:cells=mC S' a b) (h2:ak a bs=some A) (E:A=ag (sR S'.st)) (U:ak b bs=some S) (B:S=ag (fR S'.fr)) (H:Go.cu.distinct [1000000,a,b]=true) {r:CV} (Q:v=r) :
  EE f n β (HR β (.c r) (mO (mC S') (bK (sR S'.st)) (bK (fR S'.fr)))) K env ⟨bs,ts,us⟩:=by
 subst V E B Q;refine AK.C8 P Tryz.hX hf I [(1000000,1000000),(999991,a),(999992,b)] ?_ (.inr W) ⟨⟨_,_,rfl,h1,(DK S').conv _ _ _ _ _ _ rfl rfl⟩,⟨_,_,rfl,h2,dD _⟩,⟨_,_,rfl,U,dD _⟩,trivial⟩;unfold vk;rw[show([(1000000,1000000),(999991,a),(999992,b)]:List (Nat×Nat)).map (·.2)=[1000000,a,b]from rfl,H];rfl
theorem RE {f:FuncId} {n:Nat} {β:jH} {K:List Item} {env:Env} {T:Func} (hf:Tryz.prog.funcs[f]?=some T) {bs:List (Nat×List AV)} {ts:List (Nat×Nat)} {us:List Nat} {l:List AV} (I:s8 Tryz.X bs env T.results.toList=some l)
  {v:CV} (Y:close (BM l)=some v) {S':bT} {a b:Nat} {cells A S:List AV} (h1:ak 1000000 bs=some cells) (W:cells=mC S' a b) (h2:ak a bs=some A) (E:A=ag (sR S'.st)) (V:ak b bs=some S) (B:S=ag (fR S'.fr)) (H:Go.cu.distinct [1000000,a,b]=true) {r:CV} (P:v=r) :
  EE f n β (HR β (.c r) (mO (mC S') (bK (sR S'.st)) (bK (fR S'.fr)))) (.code .ret::K) env ⟨bs,ts,us⟩ :=
 S0 (.inl ⟨_,rfl⟩) hf I Y h1 W h2 E V B H P
theorem WU {f:FuncId} {n:Nat} {β:jH} {env:Env} {T:Func} (hf:Tryz.prog.funcs[f]?=some T) {bs:List (Nat×List AV)} {ts:List (Nat×Nat)} {us:List Nat} {l:List AV} (I:s8 Tryz.X bs env T.results.toList=some l)
  {v:CV} (Y:close (BM l)=some v) {S':bT} {a b:Nat} {cells A S:List AV} (h1:ak 1000000 bs=some cells) (W:cells=mC S' a b) (h2:ak a bs=some A) (E:A=ag (sR S'.st)) (V:ak b bs=some S) (B:S=ag (fR S'.fr)) (H:Go.cu.distinct [1000000,a,b]=true) {r:CV} (P:v=r) :
  EE f n β (HR β (.c r) (mO (mC S') (bK (sR S'.st)) (bK (fR S'.fr)))) [] env ⟨bs,ts,us⟩ :=
 S0 (.inr rfl) hf I Y h1 W h2 E V B H P
theorem Z4 {f:FuncId} {n:Nat} {β:jH} {env:Env} {T:Func} (hf:Tryz.prog.funcs[f]?=some T) {bs:List (Nat×List AV)} {ts:List (Nat×Nat)} {us:List Nat} {l:List AV} (I:s8 Tryz.X bs env T.results.toList=some l)
  {v:CV} (Y:close (BM l)=some v) {S':bT} {b:Nat} {cells S:List AV} (h1:ak 1000000 bs=some cells) (A:cells=Lj S' 0 b) (V:ak b bs=some S) (B:S=ag (fR S'.fr)) (H:Go.cu.distinct [1000000,b]=true) {r:CV} (P:v=r) :
  EE f n β (HR β (.c r) (mO1 (Lj S') (bK (fR S'.fr)))) [] env ⟨bs,ts,us⟩:=by
 subst A B P;refine AK.C8 (.inr rfl) Tryz.hX hf I [(1000000,1000000),(999992,b)] ?_ (.inr Y) ⟨⟨_,_,rfl,h1,DL S' _ _ _ _ rfl⟩,⟨_,_,rfl,V,dD _⟩,trivial⟩;unfold vk;rw[show([(1000000,1000000),(999992,b)]:List (Nat×Nat)).map (·.2)=[1000000,b]from rfl,H];rfl
theorem uM {ops:Array Oper} {o:Oper} {rest:List Oper} {env:Env} {acc:List Fp} {Q:Env->St->List Fp->Prop} {bs:List (Nat×List AV)} {ts:List (Nat×Nat)} {us:List Nat} (W:cV ops.toList kn env o=some true) {f:FuncId} {args:Array Operand} {B:Array TypeId} (V:o.op = .call {callee := .value (.func f),args:=args,argTypes:=B})
  {S S':bT} {N:List AV} {r:CV} (hq:cE f S N r S') {d:Nat} (P:o.dst=some d)
  {l:List AV} (C:gI (aK Tryz.X env) args.toList=some l) {M:Nat} {q:List AV} (Y:l = .ptr M 0::q) {I U:Nat} {H T O:List AV} (h1:ak M bs=some H) (A:H=mC S I U) (h2:ak I bs=some T) (E:T=ag (sR S.st)) (K:ak U bs=some O) (J:O=ag (fR S.fr))
  (G:∀ts,fy ⟨fun k=>ak k [(1000000,M),(1000001,I),(1000002,U)],fun _=>none⟩ ts N q) (D:vl us M I U (100000+d) (200000+d)=true)
  {bs':List (Nat×List AV)} (u:lU [M,I,U] bs=bs')
  (k:oE ops rest ((d,.c r)::env) ⟨(M,mC S' (100000+d) (200000+d))::(100000+d,ag (sR S'.st))::(200000+d,ag (fR S'.fr))::bs',ts,M::(100000+d)::(200000+d)::us⟩ (⟨[],[M,I,U,M,100000+d,200000+d,M,100000+d,200000+d]⟩::acc) Q):oE ops (o::rest) env ⟨bs,ts,us⟩ acc Q:=by
 subst Y;exact ai.ZZ kn W V hq (DK S) (DK S') P C rfl h1 A h2 E K J (fun ts=>⟨_,_,rfl,⟨_,fe,rfl⟩,G ts⟩) D rfl rfl u k
theorem uM1 {ops:Array Oper} {o:Oper} {rest:List Oper} {env:Env} {acc:List Fp} {Q:Env->St->List Fp->Prop} {bs:List (Nat×List AV)} {ts:List (Nat×Nat)} {us:List Nat} (W:cV ops.toList kn env o=some true) {f:FuncId} {args:Array Operand} {B:Array TypeId} (V:o.op = .call {callee := .value (.func f),args:=args,argTypes:=B})
  {S S':bT} {N:List AV} {r:CV} (hq:Hu f S N r S') {d:Nat} (T:o.dst=some d)
  {l:List AV} (C:gI (aK Tryz.X env) args.toList=some l) {M:Nat} {q:List AV} (Y:l = .ptr M 0::q) {U:Nat} {H O:List AV} (h1:ak M bs=some H) (A:H=Lj S 0 U) (P:ak U bs=some O) (K:O=ag (fR S.fr))
  (J:∀ts,fy ⟨fun k=>ak k [(1000000,M),(1000002,U)],fun _=>none⟩ ts N q) (G:wu us M U (200000+d)=true)
  {bs':List (Nat×List AV)} (I:lU [M,U] bs=bs')
  (k:oE ops rest ((d,.c r)::env) ⟨(M,Lj S' 0 (200000+d))::(200000+d,ag (fR S'.fr))::bs',ts,M::(200000+d)::us⟩ (⟨[],[M,U,M,200000+d,M,200000+d]⟩::acc) Q):oE ops (o::rest) env ⟨bs,ts,us⟩ acc Q:=by
 subst Y;exact ai.XE kn W V hq (SZ S) (SZ S') (DL S) (F6 S') (fun _ _=>rfl) T C rfl h1 A P K (fun ts=>⟨_,_,rfl,⟨_,fe,rfl⟩,J ts⟩) G rfl rfl I k
theorem cvA {ρ:Ren} {ts:List (Nat×Nat)} {v:CV} {a:AV} {l m:List AV} (h:close a=some v) (Y:fy ρ ts l m):fy ρ ts (.c v::l) (a::m):=⟨_,_,rfl,.inr h,Y⟩
theorem cvP {ρ:Ren} {ts:List (Nat×Nat)} {k k' o:Nat} {l m:List AV} (h:ρ.bx k=some k') (Y:fy ρ ts l m):fy ρ ts (.ptr k o::l) (.ptr k' o::m):=⟨_,_,rfl,⟨_,h,rfl⟩,Y⟩
theorem XH {ops:Array Oper} {o:Oper} {rest:List Oper} {env:Env} {acc:List Fp} {Q:Env->St->List Fp->Prop} {bs:List (Nat×List AV)} {ts:List (Nat×Nat)} {us:List Nat} {f:FuncId} {args:Array Operand} {B:Array TypeId} {S S':bT} {N:List AV} {r:CV} {d:Nat} {l:List AV} {M:Nat} {q:List AV} {U:Nat} {H O:List AV} {bs':List (Nat×List AV)} (k:oE ops rest ((d,.c r)::env) ⟨(M,Lj S' 0 (200000+d))::(200000+d,ag (fR S'.fr))::bs',ts,M::(200000+d)::us⟩ (⟨[],[M,U,M,200000+d,M,200000+d]⟩::acc) Q) (W:cV ops.toList kn env o=some true:=by exact rfl) (V:o.op = .call {callee := .value (.func f),args:=args,argTypes:=B}:=by exact rfl) (hq:Hu f S N r S':=by assumption) (T:o.dst=some d:=by exact rfl) (C:gI (aK Tryz.X env) args.toList=some l:=by exact rfl) (Y:l = .ptr M 0::q:=by exact rfl) (h1:ak M bs=some H:=by exact rfl) (A:H=Lj S 0 U:=by exact rfl) (P:ak U bs=some O:=by exact rfl) (K:O=ag (fR S.fr):=by exact rfl) (J:∀ts,fy ⟨fun k=>ak k [(1000000,M),(1000002,U)],fun _=>none⟩ ts N q:=by intro _;repeat' (first|exact rfl|refine cvA rfl ?_|refine cvP rfl ?_)) (G:wu us M U (200000+d)=true:=by exact rfl) (I:lU [M,U] bs=bs':=by exact rfl): oE ops (o::rest) env ⟨bs,ts,us⟩ acc Q:=uM1 W V hq T C Y h1 A P K J G I k
def S3:Nat->List AV->Env
 | _,[]=>[]
 | i,c::l=>(i,c)::S3 (i+1) l
theorem Of:∀(i:Nat) (l:List AV),S3 i l=((l.zipIdx i).map fun(v,i)=>(i,v))
 | _,[]=>rfl
 | i,c::l=>by simp only[S3,List.zipIdx_cons,List.map_cons,Of (i+1) l]
theorem mn {f:FuncId} {T:Func} {c:Code} {S S':bT} {args:List AV} {r:CV} {env:Env} (hf:Tryz.prog.funcs[f]?=some T) (P:Enters Tryz.prog f) (k:∀β,Tryz.prog.funcs[f]?=some T->EE f T.ntmps β (HR β (.c r) (mO (mC S') (bK (sR S'.st)) (bK (fR S'.fr)))) [.code c] env ⟨[(1000000,mC S 1000001 1000002),(1000001,ag (sR S.st)),(1000002,ag (fR S.fr))],[],[1000000,1000001,1000002]⟩) (p:T.body=some c:=by exact rfl) (O:(AV.ptr 1000000 0::args).length<=T.ntmps:=by exact Nat.le_of_ble_eq_true rfl) (q:S3 0 (AV.ptr 1000000 0::args)=env:=by simp only[S3];try exact rfl):cE f S args r S':=dJ.of hf p P O env _ (by rw[<- q,Of]) rfl fun β=>k β hf
theorem dm {p:Prop} (h:p:=by(repeat' (first|refine st ?_|(refine AK.CJ rfl (fun h=>?_) (fun h=>?_)<;>first|(cases h;done)|rw[h]|skip)|refine AK.pG rfl ?_ ?_|refine uC rfl (by assumption) ?_|refine uI rfl _ rfl (by assumption) rfl ?_|refine uI rfl 0 rfl (by assumption) rfl ?_|refine uI rfl 1 rfl (by assumption) rfl ?_|refine uI rfl 0 rfl rfl rfl ?_|refine uI rfl 1 rfl rfl rfl ?_|refine uI rfl 2 rfl rfl rfl ?_|refine uI rfl 3 rfl rfl rfl ?_|refine sY ?_|refine XH ?_|(first|refine ai.quo Tryz.hX kn rfl rfl rfl rfl rfl rfl rfl ((by decide)) ?_|refine ai.rem Tryz.hX kn rfl rfl rfl rfl rfl rfl rfl ((by decide)) ?_)|(refine uA rfl ?_ ?_<;>(try (show(_:Nat)*_<=_;dsimp only)))|refine ai.toStr Tryz.hX kn rfl rfl rfl rfl rfl rfl rfl rfl rfl rfl rfl (by first|exact rfl|exact wS _) rfl ?_|((first|refine ai.uu rfl rfl rfl Ev (fun h=>?_)|refine ai.uv rfl rfl rfl Ev (fun h=>?_)|refine ai.split rfl rfl rfl (fun h=>?_) (fun h=>?_))<;>(fail_if_success (cases h;done))<;>rw[h])|refine RE hf rfl rfl rfl rfl rfl rfl rfl rfl rfl ?_|refine WU hf rfl rfl rfl rfl rfl rfl rfl rfl rfl ?_))<;>rfl):p:=h
theorem dnm {p q:Prop} (k:q) (h:q->p:=by intro k;(repeat' (first|refine st ?_|(refine AK.CJ rfl (fun h=>?_) (fun h=>?_)<;>first|(cases h;done)|rw[h]|skip)|refine AK.pG rfl ?_ ?_|refine uC rfl (by assumption) ?_|refine uI rfl _ rfl (by assumption) rfl ?_|refine uI rfl 0 rfl (by assumption) rfl ?_|refine uI rfl 1 rfl (by assumption) rfl ?_|refine uI rfl 0 rfl rfl rfl ?_|refine uI rfl 1 rfl rfl rfl ?_|refine uI rfl 2 rfl rfl rfl ?_|refine uI rfl 3 rfl rfl rfl ?_|refine sY ?_|refine XH ?_|(first|refine ai.quo Tryz.hX kn rfl rfl rfl rfl rfl rfl rfl ((by decide)) ?_|refine ai.rem Tryz.hX kn rfl rfl rfl rfl rfl rfl rfl ((by decide)) ?_)|(refine uA rfl ?_ ?_<;>(try (show(_:Nat)*_<=_;dsimp only)))|refine ai.toStr Tryz.hX kn rfl rfl rfl rfl rfl rfl rfl rfl rfl rfl rfl (by first|exact rfl|exact wS _) rfl ?_|((first|refine ai.uu rfl rfl rfl Ev (fun h=>?_)|refine ai.uv rfl rfl rfl Ev (fun h=>?_)|refine ai.split rfl rfl rfl (fun h=>?_) (fun h=>?_))<;>(fail_if_success (cases h;done))<;>rw[h])|refine RE hf rfl rfl rfl rfl rfl rfl rfl rfl rfl ?_|refine WU hf rfl rfl rfl rfl rfl rfl rfl rfl rfl ?_))<;>first|exact rfl|exact k):p:=h k
theorem sY {ops:Array Oper} {o:Oper} {rest:List Oper} {env:Env} {acc:List Fp} {Q:Env->St->List Fp->Prop} {bs:List (Nat×List AV)} {ts:List (Nat×Nat)} {us:List Nat} {f:FuncId} {args:Array Operand} {B:Array TypeId} {S S':bT} {N:List AV} {r:CV} {d:Nat} {l:List AV} {M:Nat} {q:List AV} {I U:Nat} {H T O:List AV} {bs':List (Nat×List AV)} (k:oE ops rest ((d,.c r)::env) ⟨(M,mC S' (100000+d) (200000+d))::(100000+d,ag (sR S'.st))::(200000+d,ag (fR S'.fr))::bs',ts,M::(100000+d)::(200000+d)::us⟩ (⟨[],[M,I,U,M,100000+d,200000+d,M,100000+d,200000+d]⟩::acc) Q) (W:cV ops.toList kn env o=some true:=by exact rfl) (V:o.op = .call {callee := .value (.func f),args:=args,argTypes:=B}:=by exact rfl) (hq:cE f S N r S':=by assumption) (P:o.dst=some d:=by exact rfl) (C:gI (aK Tryz.X env) args.toList=some l:=by exact rfl) (Y:l = .ptr M 0::q:=by exact rfl) (h1:ak M bs=some H:=by exact rfl) (A:H=mC S I U:=by exact rfl) (h2:ak I bs=some T:=by exact rfl) (E:T=ag (sR S.st):=by exact rfl) (K:ak U bs=some O:=by exact rfl) (J:O=ag (fR S.fr):=by exact rfl) (G:∀ts,fy ⟨fun k=>ak k [(1000000,M),(1000001,I),(1000002,U)],fun _=>none⟩ ts N q:=by intro _;repeat' (first|exact rfl|refine cvA rfl ?_|refine cvP rfl ?_)) (D:vl us M I U (100000+d) (200000+d)=true:=by exact rfl) (u:lU [M,I,U] bs=bs':=by exact rfl): oE ops (o::rest) env ⟨bs,ts,us⟩ acc Q:=uM W V hq P C Y h1 A h2 E K J G D u k
theorem Hv (k n a:Int) (s:List UInt8) (args:List Vl) (H:List Ty) (B:List Nd) (t:List Vl):gv (0+t.length*7) (ag (sR (.mk k n a s args H B::t))) =
  some [.c (aF k),.c (aF n),.c (aF a),.c (.str s),.c (.sl 7 (aa args)),.c (.sl 2 (aE H)),.c (.sl 5 (aH B))]:=by
 rw[G4,ag,dB,List.map_append,Nat.zero_add,<- sZ,<- List.length_map (f:=AV.c),vV];rfl
theorem xT (f:eO) (t:List eO):gv (0+t.length*4) (ag (fR (f::t)))=some [.c (.sl 5 (aH f.code)),.c (aF (f.pos:Nat)),.c (aF f.fin),.c (.sl 7 (aa f.aside))]:=by
 rw[B7,ag,dB,List.map_append,Nat.zero_add,<- B8,<- List.length_map (f:=AV.c),vV];rfl
theorem DM (v:Vl) (t:List Vl):ag (sR (v::t))=ag (sR t)++ag [bP v]:=by rw[G4,ag,dB,List.map_append]
theorem lO (f:eO) (t:List eO):ag (fR (f::t))=ag (fR t)++ag [rF f]:=by rw[B7,ag,dB,List.map_append]
theorem Mo (k n a:Int) (s:List UInt8) (args:List Vl) (H:List Ty) (B:List Nd) (t:List Vl) (z:CV) (Y:z.cells.length=7):dL (0+t.length*7) [.c (aF k),.c (aF n),.c (aF a),.c (.str s),.c (.sl 7 (aa args)),.c (.sl 2 (aE H)),.c (.sl 5 (aH B))] (ag (sR t++[z])) =
  some (ag (sR (.mk k n a s args H B::t))):=by
 rw[DM,ag,dB,List.map_append,Nat.zero_add,<- sZ,<- List.length_map (f:=AV.c)];have T:∀(p x y:List AV),x.length=y.length->dL p.length x (p++y)=some (p++x):=by
  intro p x y h
  induction p with
  | nil=>exact Bm x y h
  | cons q p S =>
   cases x with
   | nil=>cases y with
    | nil=>simp only[aaa,List.cons_append,dL]
    | cons _ _=>simp at h
   | cons W x=>simp only[aaa,List.cons_append,dL,S]
 exact T _ _ _ (by simp only[bK,List.append_nil,List.length_map,Y];rfl)
theorem G3 (us:List Nat):∀l:List CV,yR us (l.map AV.c)=true
 | []=>rfl
 | c::l=>by simp only[List.map_cons,yR,GW];exact G3 us l
theorem N3 {us:List Nat} {k:Nat} {a:List AV} {l:List (Nat×List AV)} (h1:mem k us=true) (h2:yR us a=true) (V:okB us l=true):okB us ((k,a)::l)=true:=by
 simp only[okB,h1,h2];exact V
theorem XI (S:bT) {us:List Nat} {a b:Nat} (h1:mem a us=true) (h2:mem b us=true):yR us (mC S a b)=true:=by simp only[mC,yR,GW,h1,h2]
theorem XJ (S:bT) {us:List Nat} {M a b:Nat} (B:mem M us=true) (h1:mem a us=true) (h2:mem b us=true):okB us [(M,mC S a b),(a,ag (sR S.st)),(b,ag (fR S.fr))]=true :=
 N3 B (XI S h1 h2) (N3 h1 (G3 _ _) (N3 h2 (G3 _ _) rfl))
theorem Wh {S:bT} {bx:List (Nat×Nat)} {tk:List (Nat×(Nat×Option Nat))} {ts:List (Nat×Nat)} {bs:List (Nat×List AV)} {W a b Y p M:Nat} {H T O:List AV} (B:ak W bx=some Y) (h1:ak a bx=some p) (h2:ak b bx=some M) (V:ak Y bs=some H) (D:H=mC S p M) (A:ak p bs=some T) (q1:T=ag (sR S.st)) (E:ak M bs=some O) (N:O=ag (fR S.fr)) :
  FW ⟨fun k=>ak k bx,fun k=>ak k tk⟩ ts bs [(W,mC S a b),(a,ag (sR S.st)),(b,ag (fR S.fr))]:=by
 subst D q1 N;exact⟨⟨_,_,B,V,(DK S).conv _ _ _ _ _ _ h1 h2⟩,⟨_,_,h1,A,dD _⟩,⟨_,_,h2,E,dD _⟩,trivial⟩
end Go.Proofs
set_option maxRecDepth 100000
namespace Go.Proofs
open Go.cu
attribute [local irreducible] AK ai bw bz dJ
theorem XK (S:bT) (h:S.gS<=S.used):cE 56 S [] (aF 12) S:=by
 have E:decide (S.used>=S.gS)=true:=aan h;refine mn Tryz.func56 Tryz.call56 fun β hf=>?_;exact dm
theorem XL (S:bT) (h:S.used<S.gS) (h1:Og S.gS) (h2:0<=S.used):cE 56 S [] (aF 0) {S with used:=S.used+1}:=by
 have E:decide (S.used>=S.gS)=false:=aaw bn;have Q:IntKind.i64.wrap (S.used+1)=S.used+1:=gZ bn (by have:=h1.2;omega);refine mn Tryz.func56 Tryz.call56 fun β hf=>?_
 repeat' (first|refine mY ?_|(refine zc ?_ ?_<;>intro h<;>first|(cases h;done)|rw[h]|skip))
 rw[Q];exact RE hf rfl rfl rfl rfl rfl rfl rfl rfl rfl rfl
theorem Vc (S:bT) (h:S.st=[]):cE 80 S [] (.gB [bP oO,.bool false]) S:=by
 obtain⟨a,b,c,d,st,fr,g,u,m,said⟩:=S;simp only at h;subst h;have E:decide (IntKind.i64.wrap (((([]:List Vl).length:Nat):Int)-1)<0)=true:=by decide
 refine mn Tryz.func80 Tryz.call80 fun β hf=>?_;exact dm
theorem S4 (S:bT) (v:Vl) (t:List Vl) (h:S.st=v::t) (I:t.length<=1099511627776):cE 80 S [] (.gB [bP v,.bool true]) {S with st:=t}:=by
 obtain⟨a,b,c,d,st,fr,g,u,m,said⟩:=S;simp only at h;subst h;have Q:IntKind.i64.wrap ((((v::t).length:Nat):Int)-1)=(t.length:Nat):=by
  rw[gZ eg eg];simp only[aaa];omega
 have E:decide (IntKind.i64.wrap ((((v::t).length:Nat):Int)-1)<0)=false:=by rw[Q];exact aaw bn
 obtain⟨k,n,C,s,args,H,B⟩:=v;have Y:=Hv k n C s args H B t;refine mn Tryz.func80 Tryz.call80 fun β hf=>?_
 repeat' (first|refine mY ?_|(refine zc ?_ ?_<;>intro h<;>first|(cases h;done)|rw[h]|skip)|refine ai.jg Tryz.hX kn rfl rfl rfl rfl rfl rfl rfl rfl rfl t.length Q (Nat.lt_succ_self _) ?_|refine ai.gG Tryz.hX kn rfl rfl rfl rfl rfl rfl Y rfl ?_|refine ai.B6 Tryz.hX kn rfl rfl rfl rfl rfl rfl rfl rfl rfl rfl rfl rfl t.length Q (Nat.le_succ _) ?_)
 refine AK.vm 1000001 (ag (sR t)) _ rfl (DM _ _) rfl ?_;exact RE hf rfl rfl rfl rfl rfl rfl rfl rfl rfl rfl
theorem uL (S:bT) (B:List Nd) (fin:Int) (T:List Vl) (C:S.fr.length<=1099511627776):cE 55 S [.c (.sl 5 (aH B)),.c (aF fin),.c (.sl 7 (aa T))] .undef {S with fr:=⟨B,0,fin,T⟩::S.fr}:=by
 refine mn Tryz.func55 Tryz.call55 fun β hf=>?_
 repeat' (first|refine mY ?_|refine ai.mG Tryz.hX kn rfl rfl rfl rfl rfl rfl rfl rfl rfl rfl rfl rfl rfl rfl rfl (fR S.fr) [] (List.append_nil _).symm (xS _).symm (B8 _) rfl rfl rfl rfl rfl rfl rfl (show((fR S.fr).length+1)*64<=_ by rw[xS];omega) (B7 ⟨B,0,fin,T⟩ S.fr).symm (xS _) rfl ?_|(refine uA rfl ?_ ?_<;>(try (show(_:Nat)*_<=_;dsimp only))))
 all_goals rfl
theorem Hw (S:bT) (B:List Nd) (fin:Int) (T:List Vl) (C:S.fr.length<=1099511627776):Hu 55 S [.c (.sl 5 (aH B)),.c (aF fin),.c (.sl 7 (aa T))] .undef {S with fr:=⟨B,0,fin,T⟩::S.fr}:=by
 refine dJ.of Tryz.func55 rfl (fun args w=>Tryz.call55 args w) (Nat.le_of_ble_eq_true rfl) [(0,.ptr 1000000 0),(1,.c (.sl 5 (aH B))),(2,.c (aF fin)),(3,.c (.sl 7 (aa T)))] ⟨[(1000000,Lj (S) 0 1000002),(1000002,ag (fR (S).fr))],[],[1000000,1000002]⟩ rfl rfl fun β=>?_;have hf:=Tryz.func55
 repeat' (first|refine mY ?_|refine ai.mG Tryz.hX kn rfl rfl rfl rfl rfl rfl rfl rfl rfl rfl rfl rfl rfl rfl rfl (fR S.fr) [] (List.append_nil _).symm (xS _).symm (B8 _) rfl rfl rfl rfl rfl rfl rfl (show((fR S.fr).length+1)*64<=_ by rw[xS];omega) (B7 ⟨B,0,fin,T⟩ S.fr).symm (xS _) rfl ?_|(refine uA rfl ?_ ?_<;>(try (show(_:Nat)*_<=_;dsimp only))))
 exact Z4 hf rfl rfl rfl rfl rfl rfl rfl rfl
end Go.Proofs
namespace Go.Proofs
open Go.cu
attribute [local irreducible] AK ai bw bz dJ
theorem Mq (S:bT) (n:Nat) (N:n<=3) (C:S.st.length<=1099511627776):cE 81 S [.c (aF (n:Nat))] (match je n S.st with|some (l,_) => .gB [.sl 7 (aa l),.bool true]|none => .gB [.sl 0 [],.bool false]) {S with st:=match je n S.st with|some (_,r)=>r|none=>[]}:=by
 generalize Y:je n S.st=res;refine mn Tryz.func81 Tryz.call81 fun β hf=>?_;refine dnm ?_;refine AK.fY [(1000000,1000000),(3001,1000001),(3002,1000002)] [(3006,(0,none))] (env':=[(0,.ptr 1000000 0),(9,.c (aF (n:Nat))),(10,.c (aF (([]:List Vl).length:Nat))),(6,.own (.tok 3006 0) 7 (aa []))])
  (bs':=[(1000000,mC {S with st:=S.st} 3001 3002),(3001,ag (sR S.st)),(3002,ag (fR S.fr))]) (ts':=[(3006,0)]) (us':=[1000000,3001,3002,3006])
  ⟨⟨_,rfl,⟨_,rfl,rfl⟩⟩,⟨_,rfl,.inl rfl⟩,⟨_,rfl,.inl rfl⟩,⟨_,rfl,⟨_,rfl,.inl ⟨rfl,_,rfl,.inr rfl⟩⟩⟩,trivial⟩ (Wh rfl rfl rfl rfl rfl rfl rfl rfl rfl) rfl ?_
 refine AK.eM (α:=List Vl×List Vl) (fun z=>res=(je (n-z.1.length) z.2).map (fun q=>(z.1++q.1,q.2))/\z.1.length<=n/\z.2.length<=1099511627776) (fun z=>n-z.1.length)
  (fun z=>[(0,.ptr 1000000 0),(9,.c (aF (n:Nat))),(10,.c (aF (z.1.length:Nat))),(6,.own (.tok 3006 0) 7 (aa z.1))])
  (fun z=>[(1000000,mC {S with st:=z.2} 3001 3002),(3001,ag (sR z.2)),(3002,ag (fR S.fr))]) (fun _=>[(3006,0)]) [1000000,3001,3002,3006] ([],S.st)
  ⟨by rw[<- Y];simp only[aab,Nat.sub_zero,List.nil_append];cases je n S.st<;>rfl,Nat.zero_le _,C⟩ ⟨.inl rfl,.inl rfl,.inl rfl,.inl rfl,trivial⟩ ⟨rfl,rfl,rfl,trivial⟩ ⟨rfl,trivial⟩ rfl (XJ {S with st:=S.st} rfl rfl rfl) rfl ?_
 rintro⟨l,s⟩ ⟨h1,h2,V⟩ ih;simp only at h1 h2 V;by_cases A:l.length=n
 ·have E:decide (((l.length:Nat):Int)<((n:Nat):Int))=false:=aaw bn;have I:res=some (l,s):=by rw[h1,A,Nat.sub_self];simp[je]
  rw[I];clear ih;exact dm
 ·have E:decide (((l.length:Nat):Int)<((n:Nat):Int))=true:=aan bn;obtain⟨m,W⟩:∃m,n-l.length=m+1:=⟨n-l.length-1,bn⟩
  cases s with
  | nil =>
   have I:res=none:=by rw[h1,W];simp[je]
   rw[I];clear ih;have T:=Vc {S with st:=[]} rfl;exact dm
  | cons v t =>
   simp only[aaa]at V;have Q:IntKind.i64.wrap (((l.length:Nat):Int)+1)=((l++[v]).length:Nat):=by
    rw[gZ bn bn];simp only[aax,aaa,aab];omega
   have I:res=(je (n-(l++[v]).length) t).map (fun q=>(l++[v]++q.1,q.2)):=by
    rw[h1,W,show n-(l++[v]).length=m from by simp only[aax,aaa,aab];omega];simp only[je];cases je m t<;>simp
   have D:(l++[v]).length<=n:=by simp only[aax,aaa,aab];omega
   have U:aa l++[bP v]=aa (l++[v]):=(kz l [v]).symm;have P:=az l;obtain⟨k,G,u,O,args,H,B⟩:=v
   repeat' (first|refine mY ?_|(refine zc ?_ ?_<;>intro h<;>first|(cases h;done)|rw[h]|skip)|refine sY ?_ (hq:=S4 {S with st := .mk k G u O args H B::t} _ _ rfl bn)|(refine uA rfl ?_ ?_<;>(try (show(_:Nat)*_<=_;dsimp only))))
   ·show(_:Nat)<=_;simp only[aaa,aab];omega
   ·refine AK.fY [(1000000,1000000),(3001,100014),(3002,200014)] [(3006,(0,some 3006))] (env':=[(0,.ptr 1000000 0),(9,.c (aF (n:Nat))),(10,.c (aF ((l++[Vl.mk k G u O args H B]).length:Nat))),(6,.own (.tok 3006 0) 7 (aa (l++[Vl.mk k G u O args H B])))])
     (bs':=[(1000000,mC {S with st:=t} 3001 3002),(3001,ag (sR t)),(3002,ag (fR S.fr))]) (ts':=[(3006,0)]) (us':=[1000000,3001,3002,3006])
     ⟨⟨_,rfl,⟨_,rfl,rfl⟩⟩,⟨_,rfl,.inl rfl⟩,⟨_,rfl,.inl (congrArg (fun z=>AV.c (.int .i64 z)) Q)⟩,⟨_,rfl,⟨_,rfl,.inr ⟨_,_,rfl,rfl,by rw[<- U];rfl⟩⟩⟩,trivial⟩ (Wh rfl rfl rfl rfl rfl rfl rfl rfl rfl) rfl ?_
    exact ih (l++[Vl.mk k G u O args H B],t) ⟨I,D,by show t.length<=_;omega⟩ (by show n-(l++[_]).length<n-l.length;simp only[aax,aaa,aab];omega)
end Go.Proofs
namespace Go.Proofs
open Go.cu
theorem FD {l:List Vl} {i:Nat} {v:Vl} (h:l[i]?=some v):l.drop i=v::l.drop (i+1):=by
 obtain⟨h1,h2⟩:=List.getElem?_eq_some_iff.1 h;rw[List.drop_eq_getElem_cons h1,h2]
attribute [local irreducible] AK ai bw bz dJ lJ
theorem pP (S:bT) (l:List Vl) (N:∀v∈l,aM v<=8589934593) (yc:l.length<=1000) (hl:S.st.length+l.length<=549755813888):cE 107 S [.c (.sl 7 (aa l))] (aF (nA l S.st).1) {S with st:=(nA l S.st).2}:=by
 generalize Y:nA l S.st=res;have p:=az l;refine mn Tryz.func107 Tryz.call107 fun β hf=>?_;refine dnm ?_;refine AK.fY [(1000000,1000000),(3001,1000001),(3002,1000002)] [] (env':=[(0,.ptr 1000000 0),(7,.c (.sl 7 (aa l))),(8,.c (aF ((aa l).length:Nat))),(9,.c (aF (0:Nat)))])
  (bs':=[(1000000,mC {S with st:=S.st} 3001 3002),(3001,ag (sR S.st)),(3002,ag (fR S.fr))]) (ts':=[]) (us':=[1000000,3001,3002])
  ⟨⟨_,rfl,⟨_,rfl,rfl⟩⟩,⟨_,rfl,.inl rfl⟩,⟨_,rfl,.inl rfl⟩,⟨_,rfl,.inl rfl⟩,trivial⟩ (Wh rfl rfl rfl rfl rfl rfl rfl rfl rfl) rfl ?_
 refine AK.eM (α:=Nat×List Vl) (fun z=>res=nA (l.drop z.1) z.2/\z.1<=l.length/\z.2.length=S.st.length+z.1) (fun z=>l.length-z.1)
  (fun z=>[(0,.ptr 1000000 0),(7,.c (.sl 7 (aa l))),(8,.c (aF ((aa l).length:Nat))),(9,.c (aF (z.1:Nat)))])
  (fun z=>[(1000000,mC {S with st:=z.2} 3001 3002),(3001,ag (sR z.2)),(3002,ag (fR S.fr))]) (fun _=>[]) [1000000,3001,3002] (0,S.st)
  ⟨by rw[<- Y];rfl,Nat.zero_le _,rfl⟩ ⟨.inl rfl,.inl rfl,.inl rfl,.inl rfl,trivial⟩ ⟨rfl,rfl,rfl,trivial⟩ trivial rfl (XJ {S with st:=S.st} rfl rfl rfl) rfl ?_
 rintro⟨i,s⟩ ⟨h1,h2,M⟩ ih;simp only at h1 h2 M;by_cases K:i=l.length
 ·have E:decide (((i:Nat):Int)<(((aa l).length:Nat):Int))=false:=aaw bn;have I:res=(0,s):=by rw[h1,K,List.drop_length];rfl
  rw[I];clear ih;exact dm
 ·have E:decide (((i:Nat):Int)<(((aa l).length:Nat):Int))=true:=aan bn;have W:i<l.length:=by omega
  obtain⟨v,T⟩:∃v,l[i]?=some v:=⟨_,List.getElem?_eq_getElem W⟩
  have U:=aaz T;have D:=N v U;have Q:=FD T;have C:(aa l)[i]?=some (bP v):=by rw[jz,T];rfl
  obtain⟨k,G,u,O,args,H,B⟩:=v;have J:=DN _ D;by_cases P:lJ (.mk k G u O args H B)>200
  ·have A:decide (((lJ (.mk k G u O args H B):Nat):Int)>200)=true:=aan bn;have I:res=(13,s):=by rw[h1,Q];simp only[nA,P,if_true]
   rw[I];clear ih;exact dm
  ·have A:decide (((lJ (.mk k G u O args H B):Nat):Int)>200)=false:=aaw bn;have I:res=nA (l.drop (i+1)) (.mk k G u O args H B::s):=by rw[h1,Q];simp only[nA,P,if_false]
   have q:IntKind.i64.wrap (((i:Nat):Int)+1)=((i+1:Nat):Int):=by rw[gZ bn bn];omega
   have V:=Mo k G u O args H B s
   repeat' (first|refine mY ?_|(refine zc ?_ ?_<;>intro h<;>first|(cases h;done)|rw[h]|skip)|refine uI rfl (i) rfl (C) rfl ?_|refine uC rfl J ?_|refine ai.mG Tryz.hX kn rfl rfl rfl rfl rfl rfl rfl rfl rfl rfl rfl rfl rfl rfl rfl (sR s) [] (List.append_nil _).symm (iR _).symm (sZ _) rfl rfl rfl rfl rfl rfl rfl (show((sR s).length+1)*112<=_ by rw[iR];omega) rfl (m:=s.length+1) (by rw[aax,iR];rfl) rfl ?_|refine ai.jg Tryz.hX kn rfl rfl rfl rfl rfl rfl rfl rfl rfl s.length rfl (Nat.lt_succ_self _) ?_|refine ai.store Tryz.hX kn rfl rfl rfl rfl rfl rfl rfl rfl rfl (V _ rfl) rfl ?_|(refine uA rfl ?_ ?_<;>(try (show(_:Nat)*_<=_;dsimp only))))
   refine AK.fY [(1000000,1000000),(3001,23),(3002,3002)] [] (env':=[(0,.ptr 1000000 0),(7,.c (.sl 7 (aa l))),(8,.c (aF ((aa l).length:Nat))),(9,.c (aF ((i+1:Nat):Int)))])
    (bs':=[(1000000,mC {S with st := .mk k G u O args H B::s} 3001 3002),(3001,ag (sR (.mk k G u O args H B::s))),(3002,ag (fR S.fr))]) (ts':=[]) (us':=[1000000,3001,3002])
    ⟨⟨_,rfl,⟨_,rfl,rfl⟩⟩,⟨_,rfl,.inl rfl⟩,⟨_,rfl,.inl rfl⟩,⟨_,rfl,.inl (congrArg (fun z=>AV.c (.int .i64 z)) q)⟩,trivial⟩ (Wh rfl rfl rfl rfl rfl rfl rfl rfl rfl) rfl ?_
   exact ih (i+1,.mk k G u O args H B::s) ⟨I,W,by show(_::s).length=_;simp only[aaa];omega⟩ tV
end Go.Proofs
