/- The last text of a law whose code names a package variable of which no -/
import Derived.Test.YtdnpapgijbhofaaGreatDoorCtx
import Derived.Test.YtdnpapgijbhofaaGreatDoorHead
import Derived.JoinedCond
set_option linter.defProp false
set_option linter.unusedSimpArgs false
set_option linter.unusedVariables false
namespace Go.cM
open Go.ChangeShapes Go.WideShapes Go.RowKit
def Bw{P:Program}{w:World}{r:Reach}{base:Nat}{t:TypeId}{v:Value}(h:Cell.ok P w r base t v):(∀vs,v ≠ .agg vs)/\∀vs,v ≠ .tuple vs:=by
 constructor
 ·rintro vs rfl;unfold Cell.ok at h;split at h<;>simp_all
 ·rintro vs rfl;unfold Cell.ok at h;split at h<;>simp_all
def PG{P:Program}{w:World}(p:w.ShapedOpen P){g:Nat}{zero:Array Value}{t:TypeId}(N:Nat.blt g P.globals.size=true)
  (H:((begin P (λ_ _=>0) default).world.heap[g]?).bind Obj.row?=some (zero,t))(A:P.buildable t=true)(K:zero.size=2) :
  Rel (lI w) (.ip [.any,.any]) (.pointer (some ⟨g,0,none⟩)):=by
 obtain⟨cs,h1,h2,Y⟩:=p.1 g zero t (Nat.blt_eq.mp N) H;obtain⟨ts,_,_,W⟩:=Y A;rw[K]at h2;have S:cs[0]?=some cs[0]:=by simp[h2]
 have V:cs[1]?=some cs[1]:=by simp[h2]
 obtain⟨_,_,O⟩:=W 0 _ S;obtain⟨_,_,u⟩:=W 1 _ V;simp only[Rel];refine⟨g,0,Z,?_⟩;simp only[cL];refine⟨⟨cs[0],?_,?_,Z⟩,⟨cs[1],?_,?_,Z⟩,trivial⟩
 ·simp[lI,World.cell?,h1]
 ·simp only[Rel];exact Bw O
 ·simp[lI,World.cell?,h1]
 ·simp only[Rel];exact Bw u
section
variable {H : Type}{enc : TypeId × Value -> H}{P : Program}{W : World}
def Dl{a:Assume}{C:Checked}{D:Os}{f:FuncId}{O:Func}{s:OpenSpec}{k:(H:Type)->L (DataW H)->Bool}(hk:s.cond=some k){F:Stop.Interp}{V:L PathCond}{Y S U again:Bool}
  (own:ownKnob C.prog.godebug=none)(Q:D.Started)(N:C.prog.inits.idxOf? f=none)(B:C.prog.funcs[f]?=some O)
  (P:∃(w:World) (E:Tape) (i:Input),w.os=D/\(w.forCall E i).Shaped C.prog/\i.vars=[]/\Input.okWide C.prog (w.forCall E i) .any w.heap.size f i /\
   s.pre6 enc C.prog O V Y (w.forCall E i).memory i.args/\a.holds C.prog (lone (Frame.enter C.prog f i.args .normal) [] (w.forCall E i)))
  (T:∀(W:World)(p:W.ShapedOpen C.prog)(base:Nat)(J:Array Value)(M K:L (DataW H))(before:L MemPlace),
   (∀(j:Nat) t v,O.params[j]?=some t->J[j]?=some v->Value.okWide C.prog W .any base t v) ->
   DataW.Whole enc C.prog O.params.toList s.vars Y W J.toList M K before ->
   V.all (PathCond.test C.prog ⟨O.params.toList,M,s.bare.plain.varTypes C.prog,K⟩)=true->k H (M++K)=true ->
   a.holds C.prog (lone (Frame.enter C.prog f J .normal) [] W) ->
   Calls C.prog f J W λe q=>∃v,e = .returned v/\(s.at F).post enc C.prog O Y S U again W J v q) :
  ReturnsInHanded a C D f .any (s.pre6 enc C.prog O V Y) ((s.at F).post enc C.prog O Y S U again):=by
 refine returnsInHanded_of_calls own Q N P ?_;intro w E i _ p _ hok I UM;obtain⟨_,_,_,A,Y5,_,_,_,_,G⟩:=hok;obtain rfl:A=O:=Option.some.inj (Y5.symm.trans B);obtain⟨M,K,before,hw,hc,u⟩:=(OpenSpec.pre_some hk V Y _ _).1 I.1;refine(T (w.forCall E i) p w.heap.size i.args M K before G (DataW.Whole.of_heap (w':=w.forCall E i) (by rfl) hw) hc u UM).mono λe q ⟨v,he,hp⟩=>?_;subst he;exact ChangeSpec.post_blind hp
def ND{X:Ctx}{f:FuncId}{S:Func}{s:ChangeSpec}{Y U V again:Bool}{args:Array Value}{Q N:L (DataW H)}{before:L MemPlace}{cs:L CV}
  (hq:aZ P X f cs (.bool true))(E:bI (lI W) cs args.toList)(J:mA X (lI W))
  (I:DataW.Whole enc P S.params.toList s.vars Y W args.toList Q N before)(T:s.vars=[])
  (G:laidOutB P=true)(D:mapsRowed P=true)(q:∀t e,t<P.types.size->P.underlying t=some (.slice e)->0<P.cellsOf e)(C:(S.params.toList.all λt=>Nat.blt t P.types.size)=true)
  {M:TypeId}(A:S.resultTypes = #[M])(p:P.underlying M=some .bool)(O:s.fn H (Q++N)={results:=[.lit (.bool true)],args:=Q}) :
  Calls P f args W λe K=>∃v,e = .returned v/\s.post enc P S Y U V again W args v K:=by
 have h:=hq.2 (lI W) W args.toList (UN W) J E;rw[show args.toList.toArray=args from by simp]at h;refine h.mono ?_;rintro e K ⟨u,G',rfl,B,hg⟩;simp only[Rel]at B;subst B;exact⟨_,Z,J6 I T G D q (λt ht=>by have:=List.all_eq_true.1 C t ht;simpa[ach]using this) hg A p Z O⟩
end
end Go.cM
namespace Go.Proofs
open Go.cM
def Tryz.UO{W:World}(p:W.ShapedOpen Tryz.prog):mA Tryz.X (lI W):=λn v B=>by
 have h1:ak n [(0,.ip [.any,.any])]=some v:=B;simp only[ak]at h1;cases E:Nat.beq 0 n with
 |false=>rw[E]at h1;cases h1
 |true =>
  rw[E]at h1;obtain rfl:=acN E;cases h1;exact PG p (zero := #[.slice none 0 0,.bool false]) (t:=65) (by kernel_rfl) (by kernel_rfl) (by kernel_rfl) Z
end Go.Proofs
