/- What row and parse of package value answer. -/
import Derived.Test.YtcinhjfonmjneaaVal4
import Derived.Test.YtcinhjfonmjneaaVPar
set_option linter.unusedVariables false
set_option linter.unusedSimpArgs false
set_option maxRecDepth 100000
namespace Go.Proofs
open Go.Abs
attribute [local irreducible] AK AOps QCalls ECalls vPar vRow vParAll vParMap

theorem QCalls.weaken {P : Program} {X : Ctx} {f : FuncId} {args : List CV} {r r' : CV} (h : ∀ G v, Rel G r v → Rel G r' v) (q : QCalls P X f args r) : QCalls P X f args r' := by
  unfold QCalls at q ⊢
  refine ⟨q.1, fun G w vs h1 h2 h3 => ?_⟩
  exact Calls.mono (q.2 G w vs h1 h2 h3) fun e w' ⟨u, G', e1, e2, e3⟩ => ⟨u, G', e1, h G' u e2, e3⟩
theorem rel_nil {G : Imm} {s t : Nat} {v : Value} (h : Rel G (.sl s []) v) : Rel G (.sl t []) v := by
  rw [Rel] at h ⊢
  obtain ⟨base, len, cap, e1, e2, e3, _⟩ := h
  exact ⟨base, len, cap, e1, e2, e3, .inl rfl⟩
/-- What row answers, as it lies there. -/
def rowCV : List Vl × Bool → CV
  | (q, true) => .tup [.sl 7 (encVls q), .bool true]
  | (_, false) => .tup [.sl 0 [], .bool false]
end Go.Proofs
