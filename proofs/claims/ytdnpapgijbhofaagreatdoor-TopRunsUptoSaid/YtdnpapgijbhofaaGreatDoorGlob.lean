/- What the arguments of the laws read as: -/
import Derived.Test.YtdnpapgijbhofaaGreatDoorRows
import Derived.Test.YtdnpapgijbhofaaGreatDoorTPure
import Derived.Test.YtdnpapgijbhofaaGreatDoorCtx
import Derived.WalkKit
import Derived.ProofKit
import Derived.OpenShut
import Derived.Test.YtdnpapgijbhofaaGreatDoorChn11
import Derived.Test.YtdnpapgijbhofaaGreatDoorHead
import Derived.JoinedCond
set_option linter.defProp false
set_option linter.unusedVariables false
set_option linter.unusedSimpArgs false
namespace Go.Proofs
open Go.cw Go.ChangeShapes Go.WideShapes Go.ChangeAt Go.RowKit
def xZ{H:Type}:∀(l:L (DataW H)),(l.map YtdnpapgijbhofaaGreatDoor.Rows.uptoBulk).sum=YtdnpapgijbhofaaGreatDoor.Rows.uptoBulkAll l
 |[]=>rfl
 |d::l=>by simp only[aeX,List.sum_cons,YtdnpapgijbhofaaGreatDoor.Rows.uptoBulkAll,xZ l]
def mY{H:Type}:CY (H:=H) YtdnpapgijbhofaaGreatDoor.Rows.uptoBulk where
 lit:=λl=>by cases l<;>simp[YtdnpapgijbhofaaGreatDoor.Rows.uptoBulk]
 str:=λs=>by simp[YtdnpapgijbhofaaGreatDoor.Rows.uptoBulk]
 nil:=by simp[YtdnpapgijbhofaaGreatDoor.Rows.uptoBulk]
 slice:=λl r=>by rw[xZ];simp only[YtdnpapgijbhofaaGreatDoor.Rows.uptoBulk];omega
 agg:=λl=>by rw[xZ];simp only[YtdnpapgijbhofaaGreatDoor.Rows.uptoBulk];omega
def RTy:CV->Nat->Prop:=λc m=>∃t:Ty,c=cU t/\afd t/\bf t<=m
def RNd:CV->Nat->Prop:=λc m=>∃t:Nd,c=aM t/\afe t/\bD t<=m
def RVl:CV->Nat->Prop:=λc m=>∃t:Vl,c=bA t/\aff t/\aH t<=m
def NO:∀{rows:L CV}{m:Nat},DX RNd rows m->∃l:L Nd,rows=aD l/\S9 l/\aO l<=m
 |[],m,_=>⟨[],Z,trivial,by simp[aO]⟩
 |r::rows,m,⟨k,m',⟨t,h1,h2,K⟩,h4,h5⟩=>by obtain⟨l,E,N,H⟩:=NO h4;exact⟨t::l,by rw[h1,E];rfl,⟨h2,N⟩,by simp only[aO];omega⟩
abbrev IA:CV->Nat->Prop:=λc k=>∃z,c = .int .i64 z/\(Lit.int .i64 z).wf=true/\1<=k
abbrev ahT:CV->Nat->Prop:=λc k=>∃s,c = .str s/\s.length+1<=k
abbrev Rsl(s:Nat)(R:CV->Nat->Prop):CV->Nat->Prop:=λc k=>∃rows,c = .sl s rows/\∃I,DX R rows I/\I+1<=k
def iz:Tryz.prog.cellsOf 3=1:=by kernel_rfl
def Ju:Tryz.prog.cellsOf 9=1:=by kernel_rfl
def UK:Tryz.prog.cellsOf 26=1:=by kernel_rfl
def uN:Tryz.prog.cellsOf 47=5:=by kernel_rfl
section
variable {H : Type}{enc : TypeId × Value -> H}{W : World}
def adg{m e t s:Nat}{R:CV->Nat->Prop}(T:Tryz.prog.underlying t=some (.slice e))(C:Tryz.prog.cellsOf e=s)(S:0<s)(h:∀k,k<m->RD enc Tryz.prog W YtdnpapgijbhofaaGreatDoor.Rows.uptoBulk k e R) :
  RD (H:=H) enc Tryz.prog W YtdnpapgijbhofaaGreatDoor.Rows.uptoBulk m t (Rsl s R):=by
 cases m with
 |zero=>exact RD.zero
 |succ k=>exact RD.slice mY T C S (h k ai)
def aax:∀(n m:Nat),m<=n->RD (H:=H) enc Tryz.prog W YtdnpapgijbhofaaGreatDoor.Rows.uptoBulk m 47 RNd
 |0,m,hm=>by(obtain rfl:m=0:=by omega);exact RD.zero
 |n+1,0,_=>RD.zero
 |n+1,m+1,hm=>by
  refine RD.mono (RD.struct mY Tryz.underlying47 Z (Rs:=[IA,IA,IA,ahT,Rsl 5 RNd]) (λk A=>?_) ?_) (aaV _) ?_
  ·exact⟨_,_,Z,Z,RD.int mY Tryz.underlying3,_,_,Z,adr,RD.int mY Tryz.underlying3,_,_,Z,adr,RD.int mY Tryz.underlying3,
    _,_,Z,adr,RD.str mY Tryz.underlying9,_,_,Z,by rw[iz,Ju],adg Tryz.underlying26 uN bn (λq hq=>aax n q ai),Z⟩
  simp only[List.map,pH,iz,Ju,UK,uN];rintro c k ⟨l,rfl,M,U,T⟩;obtain⟨u,J,C,O,rfl,⟨z,rfl,I,_⟩,⟨c2,k2,l2,m2,rfl,⟨S,rfl,Y,_⟩,⟨c3,k3,l3,m3,rfl,⟨Q,rfl,V,_⟩,⟨c4,k4,l4,m4,rfl,⟨s,rfl,K⟩,⟨c5,k5,l5,m5,rfl,⟨rows,rfl,G,B,E⟩,rfl,h7⟩,h8⟩,h9⟩,h10⟩,h11⟩:=U;obtain⟨P,rfl,N,D⟩:=NO B;exact⟨.mk z S Q s P,Z,⟨bounds_i64 I,bounds_i64 Y,bounds_i64 V,N⟩,by simp only[bD];omega⟩
end
end Go.Proofs
namespace Go.Proofs
open Go.cw Go.ChangeShapes Go.WideShapes Go.ChangeAt Go.RowKit
def Xg(k:Nat)(o:wH):Prop:=bD o.arg<=k/\bD o.t0<=k/\bD o.t1<=k/\bD o.code<=k
def adh(k:Nat)(b:lN):Prop:=∀o∈b.ops,Xg k o
def adi:CV->Nat->Prop:=λc k=>∃o:wH,c = .agg (V8 o)/\Xg k o
def adj:CV->Nat->Prop:=λc k=>∃b:lN,c=kP b/\adh k b
def mK{k m:Nat}{o:wH}(h:Xg k o)(q:k<=m):Xg m o:=⟨afC h.1 q,afC h.2.1 q,afC h.2.2.1 q,afC h.2.2.2 q⟩
def NP:∀{rows:L CV}{m:Nat},DX adi rows m->∃l:List wH,rows=fD l/\∀o∈l,Xg m o
 |[],m,_=>⟨[],Z,λo T=>by simp at T⟩
 |r::rows,m,⟨k,m',⟨t,h1,h2⟩,h4,h5⟩=>by
  obtain⟨l,E,N⟩:=NP h4;refine⟨t::l,by rw[h1,E];rfl,λo T=>?_⟩;rcases List.mem_cons.1 T with rfl|T
  exact mK h2 ai;exact mK (N o T) ai
def Jv:∀{rows:L CV}{m:Nat},DX adj rows m->∃l:List lN,rows=bR l/\∀b∈l,adh m b
 |[],m,_=>⟨[],Z,λo T=>by simp at T⟩
 |r::rows,m,⟨k,m',⟨t,h1,h2⟩,h4,h5⟩=>by
  obtain⟨l,E,N⟩:=Jv h4;refine⟨t::l,by rw[h1,E];rfl,λo T=>?_⟩;rcases List.mem_cons.1 T with rfl|T
  exact λx D=>mK (h2 x D) ai;exact λx D=>mK (N o T x D) ai
def NQ:Tryz.prog.cellsOf 50=23:=by kernel_rfl
def UL:Tryz.prog.cellsOf 37=1:=by kernel_rfl
def CZ:Tryz.prog.cellsOf 48=10:=by kernel_rfl
def Jw:Tryz.prog.cellsOf 39=5:=by kernel_rfl
section
variable {H : Type}{enc : TypeId × Value -> H}{W : World}
def afg(m:Nat):RD (H:=H) enc Tryz.prog W YtdnpapgijbhofaaGreatDoor.Rows.uptoBulk m 50 adi:=by
 cases m with
 |zero=>exact RD.zero
 |succ m =>
  refine RD.mono (RD.struct mY Tryz.underlying50 Z (Rs:=[IA,IA,IA,RNd,λc m=>∃l,c = .agg l/\∃I,Gd RNd 2 l I/\I+1<=m,RNd]) (λk A=>?_) ?_) (aaV _) ?_
  ·refine⟨_,_,Z,Z,RD.int mY Tryz.underlying3,_,_,Z,adr,RD.int mY Tryz.underlying3,_,_,Z,adr,RD.int mY Tryz.underlying3,
    _,_,Z,adr,aax k k (aaV _),_,_,Z,by rw[iz,uN],?_,_,_,Z,by rw[iz,uN,CZ],aax k k (aaV _),Z⟩
   cases k with
   |zero=>exact RD.zero
   |succ k=>exact RD.array mY Tryz.underlying48 (by rw[CZ,uN]) (aax k k (aaV _))
  simp only[List.map,pH,iz,uN,CZ,NQ];rintro c k ⟨l,rfl,I,T,S⟩;obtain⟨u,J,N,M,rfl,⟨C,rfl,_,g1⟩,⟨c2,k2,l2,m2,rfl,⟨P,rfl,_,K⟩,⟨c3,k3,l3,m3,rfl,⟨O,rfl,_,D⟩,⟨c4,k4,l4,m4,rfl,⟨Q,rfl,_,G⟩,⟨c5,k5,l5,m5,rfl,⟨lx,rfl,m6,⟨ca,ka,la,ma,rfl,⟨Y,rfl,_,E⟩,⟨cb,kb,lb,mb,rfl,⟨V,rfl,_,B⟩,hlb,gd⟩,gc⟩,g5⟩,⟨c6,k6,l6,m8,rfl,⟨U,rfl,_,q⟩,rfl,g8⟩,g9⟩,g10⟩,g11⟩,g12⟩,g13⟩:=T;subst hlb;refine⟨⟨C,P,O,Q,Y,V,U⟩,?_,by show bD Q<=k;omega,by show bD Y<=k;omega,by show bD V<=k;omega,by show bD U<=k;omega⟩;cases Q;cases Y;cases V;cases U;rfl
def afh(m:Nat):RD (H:=H) enc Tryz.prog W YtdnpapgijbhofaaGreatDoor.Rows.uptoBulk m 39 adj:=by
 cases m with
 |zero=>exact RD.zero
 |succ m =>
  refine RD.mono (RD.struct mY Tryz.underlying39 Z (Rs:=[IA,IA,IA,IA,Rsl 23 adi]) (λk A=>?_) ?_) (aaV _) ?_
  ·exact⟨_,_,Z,Z,RD.int mY Tryz.underlying3,_,_,Z,adr,RD.int mY Tryz.underlying3,_,_,Z,adr,RD.int mY Tryz.underlying3,
    _,_,Z,adr,RD.int mY Tryz.underlying3,_,_,Z,adr,adg Tryz.underlying37 NQ bn (λq hq=>afg q),Z⟩
  simp only[List.map,pH,iz,UL,Jw];rintro c k ⟨l,rfl,P,Y,V⟩;obtain⟨u,J,O,N,rfl,⟨C,rfl,_,g1⟩,⟨c2,k2,l2,m2,rfl,⟨I,rfl,_,M⟩,⟨c3,k3,l3,m3,rfl,⟨U,rfl,_,D⟩,⟨c4,k4,l4,m4,rfl,⟨T,rfl,_,K⟩,⟨c5,k5,l5,m5,rfl,⟨rows,rfl,G,B,E⟩,rfl,g6⟩,g7⟩,g8⟩,g9⟩,g10⟩:=Y;obtain⟨ops,rfl,S⟩:=NP B;exact⟨⟨C,I,U,T,ops⟩,Z,λo Q=>mK (S o Q) ai⟩
set_option maxRecDepth 100000 in
def rW{v:Value}{d:DataW H}{ps:L MemPlace}{b0:Nat}{r:Reach}(hok:Value.okWide Tryz.prog W r b0 22 v)(hd:DataW.Trod enc Tryz.prog W 0 (λ_=>true) true 22 v d ps) :
  ∃a:List lN,Rel (rX W) (.sl 5 (bR a)) v/\True/\∀b∈a,adh (YtdnpapgijbhofaaGreatDoor.Rows.uptoBulk d) b:=by
 obtain⟨c,h1,h⟩:=BH (R:=Rsl 5 adj) Tryz.underlying22 (λn=>adg Tryz.underlying22 Jw bn (λk _=>afh k)) hd hok (λc k h=>by obtain⟨rows,h,_⟩:=h;exact⟨_,_,h⟩);obtain⟨rows,rfl,m',hr,hle⟩:=h;obtain⟨l,rfl,h2⟩:=Jv hr;exact⟨l,h1,trivial,λb hb o ho=>mK (h2 b hb o ho) ai⟩
end
end Go.Proofs
namespace Go.cw
open Go.ChangeShapes Go.WideShapes Go.RowKit
def Ge{P:Program}{w:World}{r:Reach}{base:Nat}{t:TypeId}{v:Value}(h:Cell.ok P w r base t v):(∀vs,v ≠ .agg vs)/\∀vs,v ≠ .tuple vs:=by
 constructor
 ·rintro vs rfl;unfold Cell.ok at h;split at h<;>simp_all
 rintro vs rfl;unfold Cell.ok at h;split at h<;>simp_all
def Xh{P:Program}{w:World}(U:w.ShapedOpen P){g:Nat}{zero:Array Value}{t:TypeId}(G:Nat.blt g P.globals.size=true)
  (C:((begin P (λ_ _=>0) default).world.heap[g]?).bind Obj.row?=some (zero,t))(q:P.buildable t=true)(I:zero.size=2) :
  Rel (rX w) (.ip [.any,.any]) (.pointer (some ⟨g,0,none⟩)):=by
 obtain⟨cs,h1,h2,K⟩:=U.1 g zero t (Nat.blt_eq.mp G) C;obtain⟨ts,_,_,Y⟩:=K q;rw[I]at h2;have W:cs[0]?=some cs[0]:=by simp[h2]
 have u:cs[1]?=some cs[1]:=by simp[h2]
 obtain⟨_,_,Q⟩:=Y 0 _ W;obtain⟨_,_,J⟩:=Y 1 _ u;simp only[Rel];refine⟨g,0,Z,?_⟩;simp only[dJ];refine⟨⟨cs[0],?_,?_,Z⟩,⟨cs[1],?_,?_,Z⟩,trivial⟩;simp[rX,World.cell?,h1];simp only[Rel];exact Ge Q;simp[rX,World.cell?,h1];simp only[Rel];exact Ge J
section
variable {H : Type}{enc : TypeId × Value -> H}{P : Program}{W : World}
def jS{a:Assume}{C:Checked}{G:Os}{f:FuncId}{O:Func}{s:OpenSpec}{k:(H:Type)->L (DataW H)->Bool}(hk:s.cond=some k){F:Stop.Interp}{V:L PathCond}{Y S U again:Bool}
  (own:ownKnob C.prog.godebug=none)(Q:G.Started)(N:C.prog.inits.idxOf? f=none)(E:C.prog.funcs[f]?=some O)
  (P:∃(w:World) (A:Tape) (i:Input),w.os=G/\(w.forCall A i).Shaped C.prog/\i.vars=[]/\Input.okWide C.prog (w.forCall A i) .any w.heap.size f i /\
   s.pre6 enc C.prog O V Y (w.forCall A i).memory i.args/\a.holds C.prog (lone (Frame.enter C.prog f i.args .normal) [] (w.forCall A i)))
  (T:∀(W:World)(hS:W.ShapedOpen C.prog)(base:Nat)(M:Array Value)(K B:L (DataW H))(before:L MemPlace),
   (∀(j:Nat) t v,O.params[j]?=some t->M[j]?=some v->Value.okWide C.prog W .any base t v) ->
   DataW.Whole enc C.prog O.params.toList s.vars Y W M.toList K B before ->
   V.all (PathCond.test C.prog ⟨O.params.toList,K,s.bare.plain.varTypes C.prog,B⟩)=true->k H (K++B)=true ->
   a.holds C.prog (lone (Frame.enter C.prog f M .normal) [] W) ->
   Calls C.prog f M W λe W'=>∃v,e = .returned v/\(s.at F).post enc C.prog O Y S U again W M v W') :
  ReturnsInHanded a C G f .any (s.pre6 enc C.prog O V Y) ((s.at F).post enc C.prog O Y S U again):=by
 refine returnsInHanded_of_calls own Q N P ?_;intro w A i _ hS _ hok J D;obtain⟨_,_,_,u,q,_,_,_,_,I⟩:=hok;obtain rfl:u=O:=Option.some.inj (q.symm.trans E);obtain⟨K,B,before,hw,hc,hkk⟩:=(OpenSpec.pre_some hk V Y _ _).1 J.1;refine(T (w.forCall A i) hS w.heap.size i.args K B before I (DataW.Whole.of_heap (w':=w.forCall A i) UI hw) hc hkk D).mono λe W' ⟨v,he,hp⟩=>?_;subst he;exact ChangeSpec.post_blind hp
def pI{X:Ctx}{f:FuncId}{C:Func}{s:ChangeSpec}{Y U V again:Bool}{args:Array Value}{S B:L (DataW H)}{before:L MemPlace}{cs:L CV}
  (hq:aR P X f cs (.bool true))(K:b9 (rX W) cs args.toList)(I:qJ X (rX W))
  (G:DataW.Whole enc P C.params.toList s.vars Y W args.toList S B before)(T:s.vars=[])
  (J:laidOutB P=true)(q:mapsRowed P=true)(E:∀t e,t<P.types.size->P.underlying t=some (.slice e)->0<P.cellsOf e)(D:(C.params.toList.all λt=>Nat.blt t P.types.size)=true)
  {O:TypeId}(A:C.resultTypes = #[O])(hb:P.underlying O=some .bool)(Q:s.fn H (S++B)={results:=[.lit (.bool true)],args:=S}) :
  Calls P f args W λe N=>∃v,e = .returned v/\s.post enc P C Y U V again W args v N:=by
 have h:=hq.2 (rX W) W args.toList (adl W) I K;rw[show args.toList.toArray=args from by simp]at h;refine h.mono ?_;rintro e N ⟨u,G',rfl,M,hg⟩;simp only[Rel]at M;subst M;exact⟨_,Z,QL G T J q E (λt ht=>by have:=List.all_eq_true.1 D t ht;simpa[afP]using this) hg A hb Z Q⟩
end
end Go.cw
namespace Go.Proofs
open Go.cw
def Tryz.AH{W:World}(U:W.ShapedOpen Tryz.prog):qJ Tryz.X (rX W):=λn v N=>by
 have h1:aq n [(0,.ip [.any,.any])]=some v:=N;simp only[aq]at h1;cases B:Nat.beq 0 n with
 |false=>rw[B]at h1;cases h1
 |true =>
  rw[B]at h1;obtain rfl:=ahZ B;cases h1;exact Xh U (zero := #[.slice none 0 0,.bool false]) (t:=65) (by kernel_rfl) (by kernel_rfl) (by kernel_rfl) Z
end Go.Proofs
