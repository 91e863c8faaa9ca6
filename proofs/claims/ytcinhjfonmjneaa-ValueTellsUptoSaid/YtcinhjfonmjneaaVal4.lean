/- What Has, Compare and worth answer; the laws ValueOneType and ValueOrder. -/
import Derived.Test.YtcinhjfonmjneaaVal3
import Derived.Test.YtcinhjfonmjneaaTree2
set_option linter.unusedVariables false
set_option linter.unusedSimpArgs false
set_option maxRecDepth 100000
namespace Go.Proofs
open Go.Abs
theorem tHas_of {t : Ty} {v : Vl} (h : tHas t v = true) : tGood t = true ∧ tBad t = false ∧ vHas v t = true := by
  unfold tHas at h
  simp only [Bool.and_eq_true] at h
  exact ⟨h.1, tGood_bad h.1, h.2⟩
attribute [local irreducible] AK AOps QCalls ECalls vCmp vHas vSame tGood tComp tGoodN vSize tySame tHas

set_option maxHeartbeats 0 in
theorem Has_calls (t : Ty) (v : Vl) (ht : tySize t ≤ 1048577) (hv : vlSize v ≤ 1048577) : QCalls Try.prog Try.X 67 [encTy t, encVl v] (.bool (tHas t v)) := by
  obtain ⟨T, ts⟩ := t
  obtain ⟨x1, x2, x3, x4, x5, x6, x7⟩ := v
  have h1 := Good_calls (.mk T ts) ht
  cases hg : tGood (.mk T ts) with
  | false =>
    rw [hg] at h1
    rw [show tHas (.mk T ts) (.mk x1 x2 x3 x4 x5 x6 x7) = false from by unfold tHas; rw [hg, Bool.false_and]]
    refine QCalls.of Try.func67 rfl (fun args w => Try.call67 args w) (Nat.le_of_ble_eq_true rfl) [(0, .c (encTy (.mk T ts))), (1, .c (encVl (.mk x1 x2 x3 x4 x5 x6 x7)))] rfl fun β hβ => ?_; have hf := Try.func67
    exact dq
  | true =>
    have h2 := has_calls (.mk x1 x2 x3 x4 x5 x6 x7) (.mk T ts) (tGood_bad hg) hv ht
    rw [hg] at h1
    rw [show tHas (.mk T ts) (.mk x1 x2 x3 x4 x5 x6 x7) = vHas (.mk x1 x2 x3 x4 x5 x6 x7) (.mk T ts) from by unfold tHas; rw [hg, Bool.true_and]]
    generalize vHas (.mk x1 x2 x3 x4 x5 x6 x7) (.mk T ts) = b at h2
    refine QCalls.of Try.func67 rfl (fun args w => Try.call67 args w) (Nat.le_of_ble_eq_true rfl) [(0, .c (encTy (.mk T ts))), (1, .c (encVl (.mk x1 x2 x3 x4 x5 x6 x7)))] rfl fun β hβ => ?_; have hf := Try.func67
    exact dq

set_option maxHeartbeats 0 in
theorem parse5_calls : QCalls Try.prog Try.X 123 [encTy (.mk 4 []), encNd (.mk 0 5 0 [] [])] (.tup [encVl (.mk 4 5 0 [] [] [] []), .bool true]) := by
  refine QCalls.of Try.func123 rfl (fun args w => Try.call123 args w) (Nat.le_of_ble_eq_true rfl) [(0, .c (encTy (.mk 4 []))), (1, .c (encNd (.mk 0 5 0 [] [])))] rfl fun β hβ => ?_; have hf := Try.func123
  refine AK.seq ?_
  refine AK.region Try.mixed rfl ?_
  repeat' (first | refine AOps.done ?_ | refine AOps.runS Try.hX kn rfl ?_ | refine AOps.box kn rfl rfl rfl rfl rfl rfl ?_ | refine AOps.alloc Try.hX kn rfl rfl rfl rfl rfl rfl rfl ?_ | refine AOps.store Try.hX kn rfl rfl rfl rfl rfl rfl rfl rfl rfl rfl rfl ?_ | refine AOps.buildSlice Try.hX kn rfl rfl rfl rfl rfl rfl rfl rfl rfl rfl rfl rfl ?_ | refine AOps.append Try.hX kn rfl rfl rfl rfl rfl rfl rfl rfl rfl rfl rfl rfl rfl rfl rfl rfl rfl rfl rfl rfl rfl ?_ ?_ | refine AOps.toStr Try.hX kn rfl rfl rfl rfl rfl rfl rfl rfl rfl rfl rfl (by first | exact rfl | exact byte1 _) rfl ?_ | refine AOps.buildArr Try.hX kn rfl rfl rfl rfl rfl rfl rfl rfl ?_ | refine AOps.indexArr Try.hX kn rfl rfl rfl rfl rfl rfl rfl rfl rfl rfl rfl rfl ?_ | refine AOps.runP1 Try.hX kn rfl rfl ?_ | (refine AOps.splitT rfl rfl rfl (by first | with_reducible assumption | (simp only [cond_true, cond_false, Bool.not_true, Bool.not_false, bne_self_eq_false, Int.reduceBNe, Int.reduceBEq]; first | done | with_reducible assumption)) (fun h => ?_) <;> (fail_if_success (cases h; done)) <;> rw [h]) | (refine AOps.splitF rfl rfl rfl (by first | with_reducible assumption | (simp only [cond_true, cond_false, Bool.not_true, Bool.not_false, bne_self_eq_false, Int.reduceBNe, Int.reduceBEq]; first | done | with_reducible assumption)) (fun h => ?_) <;> (fail_if_success (cases h; done)) <;> rw [h]) | (refine AOps.split rfl rfl rfl (fun h => ?_) (fun h => ?_) <;> (fail_if_success (cases h; done)) <;> rw [h]) | refine AOps.drawn (by kernel_rfl) ?_)
  refine AK.freeze 3 rfl rfl rfl rfl ?_
  exact dq
set_option maxHeartbeats 0 in
theorem Parse5_calls : QCalls Try.prog Try.X 81 [encTy (.mk 4 []), encNd (.mk 0 5 0 [] [])] (.tup [encVl (.mk 4 5 0 [] [] [] []), .int .i64 0]) := by
  have h1 := Good_calls (.mk 4 []) (by decide)
  rw [show tGood (.mk 4 []) = true from by decide +kernel] at h1
  have h2 := treeGood_calls (.mk 0 5 0 [] []) (by decide)
  rw [show tGoodN (.mk 0 5 0 [] []) = 0 from by decide +kernel] at h2
  have h3 := parse5_calls
  have h4 := has_calls (.mk 4 5 0 [] [] [] []) (.mk 4 []) (by decide +kernel) (by decide) (by decide)
  rw [show vHas (.mk 4 5 0 [] [] [] []) (.mk 4 []) = true from by decide +kernel] at h4
  refine QCalls.of Try.func81 rfl (fun args w => Try.call81 args w) (Nat.le_of_ble_eq_true rfl) [(0, .c (encTy (.mk 4 []))), (1, .c (encNd (.mk 0 5 0 [] [])))] rfl fun β hβ => ?_; have hf := Try.func81
  exact dq
set_option maxHeartbeats 0 in
theorem worthL_calls : QCalls Try.prog Try.X 76 [] (.bool true) := by
  have h1 := Parse5_calls
  have h2 := Size_calls (.mk 4 5 0 [] [] [] []) (by decide)
  rw [show vSize (.mk 4 5 0 [] [] [] []) = 1 from by decide +kernel] at h2
  refine QCalls.of Try.func76 rfl (fun args w => Try.call76 args w) (Nat.le_of_ble_eq_true rfl) [] rfl fun β hβ => ?_; have hf := Try.func76
  exact dq

end Go.Proofs
