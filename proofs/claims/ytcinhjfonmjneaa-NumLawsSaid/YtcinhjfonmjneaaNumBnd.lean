/- What touchstonekeep.NumBounds answers: true, for all numbers. -/
import Derived.Test.YtcinhjfonmjneaaNum2
import Derived.Test.YtcinhjfonmjneaaNumDiv
set_option linter.unusedVariables false
set_option linter.unusedSimpArgs false
namespace Go.Proofs
open Go.Abs
attribute [local irreducible] AK AOps QCalls

theorem nBound_in (n : Int) : nIn (nBound n).1 = true := by
  unfold nBound; split
  · assumption
  · decide
theorem nAdd_in (a b : Int) : nIn (nAdd a b).1 = true := by
  unfold nAdd; split
  · exact nBound_in _
  · decide
theorem nSub_in (a b : Int) : nIn (nSub a b).1 = true := by
  unfold nSub; split
  · exact nBound_in _
  · decide
theorem nMul_in (a b : Int) : nIn (nMul a b).1 = true := by
  unfold nMul; split
  · exact nBound_in _
  · decide
theorem not_both (a b : Int) (h : ¬ (nIn a = true ∧ nIn b = true)) : nAdd a b = (0, 2) ∧ nSub a b = (0, 2) ∧ nMul a b = (0, 2) := by
  unfold nAdd nSub nMul
  exact ⟨if_neg h, if_neg h, if_neg h⟩

theorem NumBounds_calls (a : Int) (ha : -9223372036854775808 ≤ a ∧ a ≤ 9223372036854775807) (b : Int) (hb : -9223372036854775808 ≤ b ∧ b ≤ 9223372036854775807) :
    QCalls Try.prog Try.X 9 [.int .i64 a, .int .i64 b] (.bool true) := by
  refine QCalls.of Try.func9 rfl (fun args w => Try.call9 args w) (Nat.le_of_ble_eq_true rfl) [(0, .c (.int .i64 a)), (1, .c (.int .i64 b))] rfl fun β hβ => ?_; have hf := Try.func9
  repeat' (first
    | refine AK.runP Try.hX Try.mixed 300 rfl ?_
    | (refine AK.condS rfl (fun h => ?_) (fun h => ?_) <;> first | (cases h; done) | rw [h] | skip)
    | refine AK.retQ Try.hX hf rfl rfl ?_
    | refine AK.region Try.mixed rfl ?_
    | refine AOps.done ?_
    | refine AOps.runP Try.hX 200 kn rfl ?_
    | refine AOps.callq kn rfl rfl rfl rfl (Add_calls a b) ?_
    | refine AOps.callq kn rfl rfl rfl rfl (Sub_calls a b) ?_
    | refine AOps.callq kn rfl rfl rfl rfl (Mul_calls a b) ?_
    | refine AOps.callq kn rfl rfl rfl rfl (reckonsK_calls) ?_
    | refine AOps.callq kn rfl rfl rfl rfl (In_calls _) ?_
    | refine AOps.box kn rfl rfl rfl rfl rfl rfl ?_
    | refine AOps.alloc Try.hX kn rfl rfl rfl rfl rfl rfl rfl ?_
    | refine AOps.store Try.hX kn rfl rfl rfl rfl rfl rfl rfl rfl rfl rfl rfl ?_
    | refine AOps.buildSlice Try.hX kn rfl rfl rfl rfl rfl rfl rfl rfl rfl rfl rfl rfl ?_
    | refine AOps.runP Try.hX 0 kn rfl ?_
    | (refine AOps.split rfl rfl rfl (fun h => ?_) (fun h => ?_) <;> rw [h])
    | refine AOps.drawn (by kernel_rfl) ?_)
  all_goals simp only [nAdd_in, nSub_in, nMul_in] at *
  all_goals try (simp_all; done)
  all_goals
    have hn : ¬ (nIn a = true ∧ nIn b = true) := by simp_all
    obtain ⟨e1, e2, e3⟩ := not_both a b hn
    simp_all
end Go.Proofs
