/- What numberOf of touchstoneref answers. -/
-- WIDE
import Derived.Test.YtcinhjfonmjneaaTree7
set_option linter.unusedVariables false
set_option linter.unusedSimpArgs false
namespace Go.Proofs
open Go.Abs
theorem bound_of {ρ : Operand → Option AV} {o : Operand} {k : IntKind} {z : Int} (h : ρ o = some (.c (.int k z))) (m : Nat) (hz : z = (m : Int)) : bound ρ (some o) = some (some m) := by
  subst hz
  simp only [bound, h]
  rfl
attribute [local irreducible] AK AOps QCalls ECalls numB nOf val wt nIn

end Go.Proofs
