/- What touchstonelaw.NumReckons answers: true, for all numbers. -/
import Derived.Test.YtcinhjfonmjneaaRefNum
set_option linter.unusedVariables false
set_option linter.unusedSimpArgs false
namespace Go.Proofs
open Go.Abs
attribute [local irreducible] AK AOps QCalls

theorem reckonsL_calls : QCalls Try.prog Try.X 41 [] (.bool true) := by
  refine QCalls.of Try.func41 rfl (fun args w => Try.call41 args w) (Nat.le_of_ble_eq_true rfl) [] rfl fun β hβ => ?_; have hf := Try.func41
  repeat' (first
    | refine AK.runP Try.hX Try.mixed 300 rfl ?_
    | (refine AK.condS rfl (fun h => ?_) (fun h => ?_) <;> first | (cases h; done) | rw [h] | skip)
    | refine AK.retQ Try.hX hf rfl rfl ?_
    | refine AK.retE Try.hX hf rfl rfl rfl rfl ?_ rfl
    | refine AK.retE Try.hX hf rfl rfl rfl rfl ?_ ?_
    | refine AK.region Try.mixed rfl ?_
    | refine AOps.done ?_
    | refine AOps.runP Try.hX 200 kn rfl ?_
    | refine AOps.callq kn rfl rfl rfl rfl (Ediv_calls _ _) ?_
    | refine AOps.box kn rfl rfl rfl rfl rfl rfl ?_
    | refine AOps.alloc Try.hX kn rfl rfl rfl rfl rfl rfl rfl ?_
    | refine AOps.store Try.hX kn rfl rfl rfl rfl rfl rfl rfl rfl rfl rfl rfl ?_
    | refine AOps.buildSlice Try.hX kn rfl rfl rfl rfl rfl rfl rfl rfl rfl rfl rfl rfl ?_
    | refine AOps.append Try.hX kn rfl rfl rfl rfl rfl rfl rfl rfl rfl rfl rfl rfl rfl rfl rfl rfl rfl rfl rfl rfl rfl ?_ ?_
    | refine AOps.runP Try.hX 0 kn rfl ?_
    | (refine AOps.split rfl rfl rfl (fun h => ?_) (fun h => ?_) <;> rw [h])
    | refine AOps.drawn (by kernel_rfl) ?_)
  all_goals simp_all [nEdiv, nIn]

set_option maxHeartbeats 1000000 in
theorem NumReckons_calls (a : Int) (ha : -9223372036854775808 ≤ a ∧ a ≤ 9223372036854775807) (b : Int) (hb : -9223372036854775808 ≤ b ∧ b ≤ 9223372036854775807) :
    QCalls Try.prog Try.X 6 [.int .i64 a, .int .i64 b] (.bool true) := by
  refine QCalls.of Try.func6 rfl (fun args w => Try.call6 args w) (Nat.le_of_ble_eq_true rfl) [(0, .c (.int .i64 a)), (1, .c (.int .i64 b))] rfl fun β hβ => ?_; have hf := Try.func6
  repeat' (first
    | refine AK.runP Try.hX Try.mixed 300 rfl ?_
    | (refine AK.condS rfl (fun h => ?_) (fun h => ?_) <;> first | (cases h; done) | rw [h] | skip)
    | refine AK.retQ Try.hX hf rfl rfl ?_
    | refine AK.retE Try.hX hf rfl rfl rfl rfl ?_ rfl
    | refine AK.retE Try.hX hf rfl rfl rfl rfl ?_ ?_
    | refine AK.region Try.mixed rfl ?_
    | refine AOps.done ?_
    | refine AOps.runP Try.hX 200 kn rfl ?_
    | refine AOps.callq kn rfl rfl rfl rfl (Add_calls a b) ?_
    | refine AOps.callq kn rfl rfl rfl rfl (rAdd_calls a b ha hb) ?_
    | refine AOps.callq kn rfl rfl rfl rfl (Sub_calls a b) ?_
    | refine AOps.callq kn rfl rfl rfl rfl (rSub_calls a b ha hb) ?_
    | refine AOps.callq kn rfl rfl rfl rfl (Mul_calls a b) ?_
    | refine AOps.callq kn rfl rfl rfl rfl (rMul_calls a b ha hb) ?_
    | refine AOps.callq kn rfl rfl rfl rfl (Abs_calls a) ?_
    | refine AOps.callq kn rfl rfl rfl rfl (rAbs_calls a ha) ?_
    | refine AOps.callq kn rfl rfl rfl rfl (Ediv_calls a b) ?_
    | refine AOps.callq kn rfl rfl rfl rfl (rEdiv_calls a b ha hb) ?_
    | refine AOps.callq kn rfl rfl rfl rfl (In_calls a) ?_
    | refine AOps.callq kn rfl rfl rfl rfl (rIn_calls a ha) ?_
    | refine AOps.callq kn rfl rfl rfl rfl (reckonsL_calls) ?_
    | refine AOps.box kn rfl rfl rfl rfl rfl rfl ?_
    | refine AOps.alloc Try.hX kn rfl rfl rfl rfl rfl rfl rfl ?_
    | refine AOps.store Try.hX kn rfl rfl rfl rfl rfl rfl rfl rfl rfl rfl rfl ?_
    | refine AOps.buildSlice Try.hX kn rfl rfl rfl rfl rfl rfl rfl rfl rfl rfl rfl rfl ?_
    | refine AOps.append Try.hX kn rfl rfl rfl rfl rfl rfl rfl rfl rfl rfl rfl rfl rfl rfl rfl rfl rfl rfl rfl rfl rfl ?_ ?_
    | refine AOps.runP Try.hX 0 kn rfl ?_
    | (refine AOps.split rfl rfl rfl (fun h => ?_) (fun h => ?_) <;> rw [h])
    | refine AOps.drawn (by kernel_rfl) ?_)
  all_goals simp_all
end Go.Proofs
