/- What touchstonelaw.Names answers: true. -/
import Derived.Test.YtcinhjfonmjneaaData
import Derived.Test.YtcinhjfonmjneaaCtx
set_option linter.unusedVariables false
namespace Go.Proofs
open Go.Abs
attribute [local irreducible] AK AOps QCalls

theorem Names_calls : QCalls Try.prog Try.X 3 [] (.bool true) := by
  refine QCalls.of Try.func3 rfl (fun args w => Try.call3 args w) (Nat.le_of_ble_eq_true rfl) [] rfl fun β hβ => ?_; have hf := Try.func3
  repeat' (first
    | refine AK.runP Try.hX Try.mixed 300 rfl ?_
    | (refine AK.condS rfl (fun h => ?_) (fun h => ?_) <;> first | (cases h; done) | rw [h] | skip)
    | refine AK.retQ Try.hX hf rfl rfl ?_
    | refine AK.region Try.mixed rfl ?_
    | refine AOps.done ?_
    | refine AOps.runP Try.hX 200 kn rfl ?_
    | refine AOps.box kn rfl rfl rfl rfl rfl rfl ?_
    | refine AOps.alloc Try.hX kn rfl rfl rfl rfl rfl rfl rfl ?_
    | refine AOps.store Try.hX kn rfl rfl rfl rfl rfl rfl rfl rfl rfl rfl rfl ?_
    | refine AOps.buildSlice Try.hX kn rfl rfl rfl rfl rfl rfl rfl rfl rfl rfl rfl rfl ?_
    | refine AOps.runP Try.hX 0 kn rfl ?_
    | (refine AOps.split rfl rfl rfl (fun h => ?_) (fun h => ?_) <;> rw [h])
    | refine AOps.drawn (by kernel_rfl) ?_)
  all_goals rfl
end Go.Proofs
