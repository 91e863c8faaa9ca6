/- What touchstonekeep.NumLaws answers: true, for all numbers. -/
import Derived.Test.YtcinhjfonmjneaaNumBnd
set_option linter.unusedVariables false
set_option linter.unusedSimpArgs false
namespace Go.Proofs
open Go.Abs
attribute [local irreducible] AK AOps QCalls

theorem nAdd_comm (a b : Int) : nAdd a b = nAdd b a := by
  unfold nAdd; rw [Int.add_comm a b]
  by_cases h : nIn a = true ∧ nIn b = true
  · rw [if_pos h, if_pos ⟨h.2, h.1⟩]
  · rw [if_neg h, if_neg (fun h' => h ⟨h'.2, h'.1⟩)]
theorem nMul_comm (a b : Int) : nMul a b = nMul b a := by
  unfold nMul; rw [Int.mul_comm a b]
  by_cases h : nIn a = true ∧ nIn b = true
  · rw [if_pos h, if_pos ⟨h.2, h.1⟩]
  · rw [if_neg h, if_neg (fun h' => h ⟨h'.2, h'.1⟩)]
theorem nAdd_ok {a b : Int} (h : (nAdd a b).2 = 0) : nIn a = true ∧ nIn b = true ∧ nIn (a + b) = true ∧ (nAdd a b).1 = a + b := by
  unfold nAdd at *
  split at h
  · rename_i h1
    unfold nBound at *
    split at h
    · rename_i h2; rw [if_pos h1, if_pos h2]; exact ⟨h1.1, h1.2, h2, rfl⟩
    · simp at h
  · simp at h
theorem nMul_ok {a b : Int} (h : (nMul a b).2 = 0) : nIn a = true ∧ nIn b = true ∧ nIn (a * b) = true ∧ (nMul a b).1 = a * b := by
  unfold nMul at *
  split at h
  · rename_i h1
    unfold nBound at *
    split at h
    · rename_i h2; rw [if_pos h1, if_pos h2]; exact ⟨h1.1, h1.2, h2, rfl⟩
    · simp at h
  · simp at h

theorem NumLaws_calls (a : Int) (ha : -9223372036854775808 ≤ a ∧ a ≤ 9223372036854775807) (b : Int) (hb : -9223372036854775808 ≤ b ∧ b ≤ 9223372036854775807) (c : Int) (hc : -9223372036854775808 ≤ c ∧ c ≤ 9223372036854775807) :
    QCalls Try.prog Try.X 8 [.int .i64 a, .int .i64 b, .int .i64 c] (.bool true) := by
  refine QCalls.of Try.func8 rfl (fun args w => Try.call8 args w) (Nat.le_of_ble_eq_true rfl) [(0, .c (.int .i64 a)), (1, .c (.int .i64 b)), (2, .c (.int .i64 c))] rfl fun β hβ => ?_; have hf := Try.func8
  repeat' (first
    | refine AK.runP Try.hX Try.mixed 300 rfl ?_
    | (refine AK.condS rfl (fun h => ?_) (fun h => ?_) <;> first | (cases h; done) | rw [h] | skip)
    | refine AK.retQ Try.hX hf rfl rfl ?_
    | refine AK.region Try.mixed rfl ?_
    | refine AOps.done ?_
    | refine AOps.runP Try.hX 200 kn rfl ?_
    | refine AOps.callq kn rfl rfl rfl rfl (Add_calls _ _) ?_
    | refine AOps.callq kn rfl rfl rfl rfl (Sub_calls _ _) ?_
    | refine AOps.callq kn rfl rfl rfl rfl (Mul_calls _ _) ?_
    | refine AOps.callq kn rfl rfl rfl rfl (reckonsK_calls) ?_
    | refine AOps.box kn rfl rfl rfl rfl rfl rfl ?_
    | refine AOps.alloc Try.hX kn rfl rfl rfl rfl rfl rfl rfl ?_
    | refine AOps.store Try.hX kn rfl rfl rfl rfl rfl rfl rfl rfl rfl rfl rfl ?_
    | refine AOps.buildSlice Try.hX kn rfl rfl rfl rfl rfl rfl rfl rfl rfl rfl rfl rfl ?_
    | refine AOps.runP Try.hX 0 kn rfl ?_
    | (refine AOps.split rfl rfl rfl (fun h => ?_) (fun h => ?_) <;> rw [h])
    | refine AOps.drawn (by kernel_rfl) ?_)
  all_goals try (simp_all [nAdd_comm a b, nMul_comm a b]; done)
  all_goals
    have h1 : (nAdd a b).2 = 0 := by simp_all
    obtain ⟨e1, e2, e3, e4⟩ := nAdd_ok h1
    have e5 : nSub (nAdd a b).1 b = (a, 0) := by
      rw [e4]; unfold nSub nBound; rw [if_pos ⟨e3, e2⟩, show a + b - b = a from by omega, if_pos e1]
  · simp_all
  · simp_all
  · have h2 : (nMul (nAdd a b).1 c).2 = 0 := by simp_all
    have h3 : (nMul a c).2 = 0 := by simp_all
    have h4 : (nMul b c).2 = 0 := by simp_all
    obtain ⟨f1, f2, f3, f4⟩ := nMul_ok h2
    obtain ⟨g1, g2, g3, g4⟩ := nMul_ok h3
    obtain ⟨k1, k2, k3, k4⟩ := nMul_ok h4
    have h5 : (nAdd (nMul a c).1 (nMul b c).1).2 = 0 := by simp_all
    obtain ⟨m1, m2, m3, m4⟩ := nAdd_ok h5
    rw [m4, f4, g4, k4, e4, Int.add_mul]; simp
  · have h2 : (nMul (nAdd a b).1 c).2 = 0 := by simp_all
    have h3 : (nMul a c).2 = 0 := by simp_all
    have h4 : (nMul b c).2 = 0 := by simp_all
    obtain ⟨f1, f2, f3, f4⟩ := nMul_ok h2
    obtain ⟨g1, g2, g3, g4⟩ := nMul_ok h3
    obtain ⟨k1, k2, k3, k4⟩ := nMul_ok h4
    have h5 : nAdd (nMul a c).1 (nMul b c).1 = (a * c + b * c, 0) := by
      rw [g4, k4]; unfold nAdd nBound; rw [if_pos ⟨g3, k3⟩, if_pos]
      rw [e4, Int.add_mul] at f3; exact f3
    simp_all
end Go.Proofs
