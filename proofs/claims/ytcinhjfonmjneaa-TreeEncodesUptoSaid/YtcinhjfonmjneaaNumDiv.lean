/- What touchstonekeep.NumDivides answers: true, for all numbers. -/
import Derived.Test.YtcinhjfonmjneaaNum1
set_option linter.unusedVariables false
set_option linter.unusedSimpArgs false
namespace Go.Proofs
open Go.Abs

attribute [local irreducible] AK AOps QCalls

theorem reckonsK_calls : QCalls Try.prog Try.X 25 [] (.bool true) := by
  refine QCalls.of Try.func25 rfl (fun args w => Try.call25 args w) (Nat.le_of_ble_eq_true rfl) [] rfl fun β hβ => ?_; have hf := Try.func25
  repeat' (first | refine AK.runP Try.hX Try.mixed 300 rfl ?_ | refine AK.condTe rfl asm ?_ | refine AK.condFe rfl asm ?_ | (refine AK.condS rfl (fun h => ?_) (fun h => ?_) <;> first | (cases h; done) | rw [h] | skip) | refine AK.retQ Try.hX hf rfl rfl ?_ | refine AK.region Try.mixed rfl ?_ | refine AOps.done ?_ | refine AOps.runS Try.hX kn rfl ?_ | refine AOps.callq kn rfl rfl rfl rfl (Ediv_calls _ _) ?_ | refine AOps.box kn rfl rfl rfl rfl rfl rfl ?_ | refine AOps.alloc Try.hX kn rfl rfl rfl rfl rfl rfl rfl ?_ | refine AOps.store Try.hX kn rfl rfl rfl rfl rfl rfl rfl rfl rfl rfl rfl ?_ | refine AOps.buildSlice Try.hX kn rfl rfl rfl rfl rfl rfl rfl rfl rfl rfl rfl rfl ?_ | refine AOps.append Try.hX kn rfl rfl rfl rfl rfl rfl rfl rfl rfl rfl rfl rfl rfl rfl rfl rfl rfl rfl rfl rfl rfl ?_ ?_ | refine AOps.toStr Try.hX kn rfl rfl rfl rfl rfl rfl rfl rfl rfl rfl rfl (by first | exact rfl | exact byte1 _) rfl ?_ | refine AOps.buildArr Try.hX kn rfl rfl rfl rfl rfl rfl rfl rfl ?_ | refine AOps.indexArr Try.hX kn rfl rfl rfl rfl rfl rfl rfl rfl rfl rfl rfl rfl ?_ | refine AOps.runP1 Try.hX kn rfl rfl ?_ | (refine AOps.splitT rfl rfl rfl asm (fun h => ?_) <;> (fail_if_success (cases h; done)) <;> rw [h]) | (refine AOps.splitF rfl rfl rfl asm (fun h => ?_) <;> (fail_if_success (cases h; done)) <;> rw [h]) | (refine AOps.split rfl rfl rfl (fun h => ?_) (fun h => ?_) <;> (fail_if_success (cases h; done)) <;> rw [h]) | refine AOps.drawn (by kernel_rfl) ?_)
  all_goals simp_all [nEdiv, nIn]

theorem nEdiv_cases (a b : Int) : nEdiv a b = (0, 0, 2) ∨ nEdiv a b = (0, 0, 6) ∧ b = 0 ∨
    nEdiv a b = (a / b, a % b, 0) ∧ nIn a = true ∧ nIn b = true ∧ b ≠ 0 ∧ 0 ≤ a % b ∧ a % b < (nAbs b).1 ∧ nIn (a / b) = true ∧ nIn (a % b) = true ∧ IntKind.i64.wrap (IntKind.i64.wrap (a / b * b) + a % b) = a := by
  unfold nEdiv
  split
  · rename_i h
    split
    · rename_i hb; exact .inr (.inl ⟨rfl, hb⟩)
    · rename_i hb
      have h1 := nIn_iff.1 h.1
      have h2 := nIn_iff.1 h.2
      have e1 := Int.emod_nonneg a hb
      have e2 := Int.natAbs_ediv_le_natAbs a b
      have e3 : a % b < (nAbs b).1 := by
        simp only [nAbs, h.2]
        have := Int.emod_lt a hb
        simp; split <;> omega
      have e4 : (nAbs b).1 ≤ 1152921504606846976 := by
        simp only [nAbs, h.2]; simp; split <;> omega
      have e5 : a / b * b + a % b = a := by rw [Int.mul_comm]; exact Int.mul_ediv_add_emod a b
      refine .inr (.inr ⟨rfl, h.1, h.2, hb, e1, e3, nIn_iff.2 (by omega), nIn_iff.2 (by omega), ?_⟩)
      rw [w64 (n := a / b * b) (by omega) (by omega), e5, w64 (by omega) (by omega)]
  · exact .inl rfl

theorem NumDivides_calls (a : Int) (ha : -9223372036854775808 ≤ a ∧ a ≤ 9223372036854775807) (b : Int) (hb : -9223372036854775808 ≤ b ∧ b ≤ 9223372036854775807) : QCalls Try.prog Try.X 4 [.int .i64 a, .int .i64 b] (.bool true) := by
  refine QCalls.of Try.func4 rfl (fun args w => Try.call4 args w) (Nat.le_of_ble_eq_true rfl) [(0, .c (.int .i64 a)), (1, .c (.int .i64 b))] rfl fun β hβ => ?_; have hf := Try.func4
  repeat' (first | refine AK.runP Try.hX Try.mixed 300 rfl ?_ | refine AK.condTe rfl asm ?_ | refine AK.condFe rfl asm ?_ | (refine AK.condS rfl (fun h => ?_) (fun h => ?_) <;> first | (cases h; done) | rw [h] | skip) | refine AK.retQ Try.hX hf rfl rfl ?_ | refine AK.region Try.mixed rfl ?_ | refine AOps.done ?_ | refine AOps.runS Try.hX kn rfl ?_ | refine AOps.callq kn rfl rfl rfl rfl (Ediv_calls a b) ?_ | refine AOps.callq kn rfl rfl rfl rfl (reckonsK_calls) ?_ | refine AOps.callq kn rfl rfl rfl rfl (Abs_calls b) ?_ | refine AOps.callq kn rfl rfl rfl rfl (In_calls _) ?_ | refine AOps.box kn rfl rfl rfl rfl rfl rfl ?_ | refine AOps.alloc Try.hX kn rfl rfl rfl rfl rfl rfl rfl ?_ | refine AOps.store Try.hX kn rfl rfl rfl rfl rfl rfl rfl rfl rfl rfl rfl ?_ | refine AOps.buildSlice Try.hX kn rfl rfl rfl rfl rfl rfl rfl rfl rfl rfl rfl rfl ?_ | refine AOps.append Try.hX kn rfl rfl rfl rfl rfl rfl rfl rfl rfl rfl rfl rfl rfl rfl rfl rfl rfl rfl rfl rfl rfl ?_ ?_ | refine AOps.toStr Try.hX kn rfl rfl rfl rfl rfl rfl rfl rfl rfl rfl rfl (by first | exact rfl | exact byte1 _) rfl ?_ | refine AOps.buildArr Try.hX kn rfl rfl rfl rfl rfl rfl rfl rfl ?_ | refine AOps.indexArr Try.hX kn rfl rfl rfl rfl rfl rfl rfl rfl rfl rfl rfl rfl ?_ | refine AOps.runP1 Try.hX kn rfl rfl ?_ | (refine AOps.splitT rfl rfl rfl asm (fun h => ?_) <;> (fail_if_success (cases h; done)) <;> rw [h]) | (refine AOps.splitF rfl rfl rfl asm (fun h => ?_) <;> (fail_if_success (cases h; done)) <;> rw [h]) | (refine AOps.split rfl rfl rfl (fun h => ?_) (fun h => ?_) <;> (fail_if_success (cases h; done)) <;> rw [h]) | refine AOps.drawn (by kernel_rfl) ?_)
  all_goals
    have hc := nEdiv_cases a b
    rcases hc with hc | ⟨hc, hb⟩ | ⟨hc, h1, h2, hb, h3, h4, h5, h6, h7⟩
    all_goals simp_all
end Go.Proofs
