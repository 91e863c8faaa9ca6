/- What math/bits.Mul64 answers for small numbers, and num.Mul for all numbers. -/
import Derived.Test.YtcinhjfonmjneaaNum1
set_option linter.unusedVariables false
set_option linter.unusedSimpArgs false
namespace Go.Proofs
open Go.Abs

attribute [local irreducible] AK AOps QCalls

theorem wu64 {n : Int} (h1 : 0 ≤ n) (h2 : n ≤ 18446744073709551615) : IntKind.u64.wrap n = n := by
  simp [IntKind.wrap, IntKind.bits, IntKind.signed]; omega

theorem mask32 (x : Int) (h0 : 0 ≤ x) (h1 : x ≤ 18446744073709551615) : IntKind.u64.wrap ((BitVec.ofInt (IntKind.bits .u64) x &&& BitVec.ofInt (IntKind.bits .u64) 4294967295).toNat : Nat) = x % 4294967296 := by
  have e : ((BitVec.ofInt (IntKind.bits .u64) x &&& BitVec.ofInt (IntKind.bits .u64) 4294967295).toNat) = x.toNat % 4294967296 := by
    rw [BitVec.toNat_and, BitVec.toNat_ofInt, BitVec.toNat_ofInt]
    have e1 : ((4294967295 : Int) % ((2 ^ IntKind.bits .u64 : Nat) : Int)).toNat = 2 ^ 32 - 1 := by decide
    have e2 : (x % ((2 ^ IntKind.bits .u64 : Nat) : Int)).toNat = x.toNat := by
      have : ((2 ^ IntKind.bits .u64 : Nat) : Int) = 18446744073709551616 := by decide
      rw [this, Int.emod_eq_of_lt h0 (by omega)]
    rw [e1, e2, Nat.and_two_pow_sub_one_eq_mod]
  rw [e, wu64 (by omega) (by omega)]
  omega

theorem hi_eq (p11 p10 p01 p00 : Int) (h : 0 ≤ p00) : p11 + (p10 + p00 / 4294967296) / 4294967296 + ((p10 + p00 / 4294967296) % 4294967296 + p01) / 4294967296 = (p11 * 18446744073709551616 + (p10 + p01) * 4294967296 + p00) / 18446744073709551616 := by omega

theorem prod_eq (a1 a0 b1 b0 : Int) : (a1 * 4294967296 + a0) * (b1 * 4294967296 + b0) = (a1 * b1) * 18446744073709551616 + (a1 * b0 + a0 * b1) * 4294967296 + a0 * b0 := by
  simp only [Int.add_mul, Int.mul_add]
  have e1 : a1 * 4294967296 * (b1 * 4294967296) = a1 * b1 * 18446744073709551616 := by
    rw [← Int.mul_assoc, Int.mul_right_comm a1 4294967296 b1, Int.mul_assoc]; rfl
  rw [Int.mul_right_comm a1 4294967296 b0, e1, ← Int.mul_assoc a0 b1]
  omega

theorem mul_le_mul' {a b c d : Int} (h1 : 0 ≤ a) (h2 : a ≤ c) (h3 : 0 ≤ b) (h4 : b ≤ d) : 0 ≤ a * b ∧ a * b ≤ c * d :=
  ⟨Int.mul_nonneg h1 h3, Int.mul_le_mul h2 h4 h3 (by omega)⟩

theorem Mul64_calls (x y : Int) (hx : 0 ≤ x ∧ x ≤ 1152921504606846976) (hy : 0 ≤ y ∧ y ≤ 1152921504606846976) :
    QCalls Try.prog Try.X 88 [.int .u64 x, .int .u64 y] (.tup [.int .u64 (x * y / 18446744073709551616), .int .u64 (x * y % 18446744073709551616)]) := by
  refine QCalls.of Try.func88 rfl (fun args w => Try.call88 args w) (Nat.le_of_ble_eq_true rfl) [(0, .c (.int .u64 x)), (1, .c (.int .u64 y))] rfl fun β hβ => ?_; have hf := Try.func88
  repeat' (first | refine AK.runP Try.hX Try.mixed 300 rfl ?_ | refine AK.condTe rfl asm ?_ | refine AK.condFe rfl asm ?_ | (refine AK.condS rfl (fun h => ?_) (fun h => ?_) <;> first | (cases h; done) | rw [h] | skip) | refine AK.retQ Try.hX hf rfl rfl ?_ | refine AK.region Try.mixed rfl ?_ | refine AOps.done ?_ | refine AOps.runS Try.hX kn rfl ?_ | refine AOps.box kn rfl rfl rfl rfl rfl rfl ?_ | refine AOps.alloc Try.hX kn rfl rfl rfl rfl rfl rfl rfl ?_ | refine AOps.store Try.hX kn rfl rfl rfl rfl rfl rfl rfl rfl rfl rfl rfl ?_ | refine AOps.buildSlice Try.hX kn rfl rfl rfl rfl rfl rfl rfl rfl rfl rfl rfl rfl ?_ | refine AOps.append Try.hX kn rfl rfl rfl rfl rfl rfl rfl rfl rfl rfl rfl rfl rfl rfl rfl rfl rfl rfl rfl rfl rfl ?_ ?_ | refine AOps.toStr Try.hX kn rfl rfl rfl rfl rfl rfl rfl rfl rfl rfl rfl (by first | exact rfl | exact byte1 _) rfl ?_ | refine AOps.buildArr Try.hX kn rfl rfl rfl rfl rfl rfl rfl rfl ?_ | refine AOps.indexArr Try.hX kn rfl rfl rfl rfl rfl rfl rfl rfl rfl rfl rfl rfl ?_ | refine AOps.runP1 Try.hX kn rfl rfl ?_ | (refine AOps.splitT rfl rfl rfl asm (fun h => ?_) <;> (fail_if_success (cases h; done)) <;> rw [h]) | (refine AOps.splitF rfl rfl rfl asm (fun h => ?_) <;> (fail_if_success (cases h; done)) <;> rw [h]) | (refine AOps.split rfl rfl rfl (fun h => ?_) (fun h => ?_) <;> (fail_if_success (cases h; done)) <;> rw [h]) | refine AOps.drawn (by kernel_rfl) ?_)
  have f32 : ∀ n : Int, n.fdiv (2 ^ min 32 (IntKind.bits .u64)) = n / 4294967296 := fun n => by
    rw [show (2 : Int) ^ (min 32 (IntKind.bits .u64)) = 4294967296 from by decide]; exact Int.fdiv_eq_ediv_of_nonneg n (by decide)
  have lo : ∀ n : Int, IntKind.u64.wrap n = n % 18446744073709551616 := fun n => by simp [IntKind.wrap, IntKind.bits, IntKind.signed]
  simp only [f32, mask32 x (by omega) (by omega), mask32 y (by omega) (by omega)]
  obtain ⟨a1, a0, ha1, ha0, h1, h2, h3, h4, h5⟩ : ∃ a1 a0 : Int, x / 4294967296 = a1 ∧ x % 4294967296 = a0 ∧ 0 ≤ a1 ∧ a1 ≤ 268435456 ∧ 0 ≤ a0 ∧ a0 ≤ 4294967295 ∧ x = a1 * 4294967296 + a0 := ⟨_, _, rfl, rfl, by omega, by omega, by omega, by omega, by omega⟩
  obtain ⟨b1, b0, hb1, hb0, g1, g2, g3, g4, g5⟩ : ∃ b1 b0 : Int, y / 4294967296 = b1 ∧ y % 4294967296 = b0 ∧ 0 ≤ b1 ∧ b1 ≤ 268435456 ∧ 0 ≤ b0 ∧ b0 ≤ 4294967295 ∧ y = b1 * 4294967296 + b0 := ⟨_, _, rfl, rfl, by omega, by omega, by omega, by omega, by omega⟩
  rw [lo (x * y)]
  rw [ha1, ha0, hb1, hb0]
  have e := prod_eq a1 a0 b1 b0
  rw [← h5, ← g5] at e
  have m11 := mul_le_mul' h1 h2 g1 g2
  have m10 := mul_le_mul' h1 h2 g3 g4
  have m01 := mul_le_mul' h3 h4 g1 g2
  have m00 := mul_le_mul' h3 h4 g3 g4
  have hh := hi_eq (a1 * b1) (a1 * b0) (a0 * b1) (a0 * b0) m00.1
  rw [← e] at hh
  rw [← hh]
  generalize a1 * b1 = p11 at *
  generalize a1 * b0 = p10 at *
  generalize a0 * b1 = p01 at *
  generalize a0 * b0 = p00 at *
  rw [wu64 (n := p00) (by omega) (by omega), wu64 (n := p10) (by omega) (by omega), wu64 (n := p01) (by omega) (by omega), wu64 (n := p11) (by omega) (by omega)]
  rw [wu64 (n := p10 + p00 / 4294967296) (by omega) (by omega), mask32 _ (by omega) (by omega)]
  rw [wu64 (n := p11 + _) (by omega) (by omega), wu64 (n := (p10 + p00 / 4294967296) % 4294967296 + p01) (by omega) (by omega), wu64 (by omega) (by omega)]

theorem nAbs_bd (a : Int) : 0 ≤ (nAbs a).1 ∧ (nAbs a).1 ≤ 1152921504606846976 := by
  unfold nAbs
  split
  · rename_i h; have := nIn_iff.1 h; dsimp only; split <;> omega
  · simp
theorem abs_u (a : Int) : 0 ≤ IntKind.u64.wrap (nAbs a).1 ∧ IntKind.u64.wrap (nAbs a).1 ≤ 1152921504606846976 := by
  have := nAbs_bd a
  rw [wu64 (by omega) (by omega)]; exact this

theorem abs_u_eq (a : Int) : IntKind.u64.wrap (nAbs a).1 = (nAbs a).1 := by
  have := nAbs_bd a
  exact wu64 (by omega) (by omega)
theorem nAbs_snd (a : Int) : ((nAbs a).2 != 0) = !nIn a := by
  unfold nAbs
  split
  · rename_i h; simp [h]
  · rename_i h; simp [h]
theorem nAbs_mul (a b : Int) (ha : nIn a = true) (hb : nIn b = true) : ((!(decide (a < 0) == decide (b < 0))) = false → (nAbs a).1 * (nAbs b).1 = a * b) ∧ ((!(decide (a < 0) == decide (b < 0))) = true → (nAbs a).1 * (nAbs b).1 = -(a * b)) := by
  by_cases h1 : a < 0 <;> by_cases h2 : b < 0 <;> simp [nAbs, ha, hb, h1, h2, Int.neg_mul_neg, Int.neg_mul, Int.mul_neg]

theorem Mul_calls (a b : Int) : QCalls Try.prog Try.X 36 [.int .i64 a, .int .i64 b] (two (nMul a b)) := by
  refine QCalls.of Try.func36 rfl (fun args w => Try.call36 args w) (Nat.le_of_ble_eq_true rfl) [(0, .c (.int .i64 a)), (1, .c (.int .i64 b))] rfl fun β hβ => ?_; have hf := Try.func36
  repeat' (first | refine AK.runP Try.hX Try.mixed 300 rfl ?_ | refine AK.condTe rfl asm ?_ | refine AK.condFe rfl asm ?_ | (refine AK.condS rfl (fun h => ?_) (fun h => ?_) <;> first | (cases h; done) | rw [h] | skip) | refine AK.retQ Try.hX hf rfl rfl ?_ | refine AK.region Try.mixed rfl ?_ | refine AOps.done ?_ | refine AOps.runS Try.hX kn rfl ?_ | refine AOps.callq kn rfl rfl rfl rfl (Abs_calls a) ?_ | refine AOps.callq kn rfl rfl rfl rfl (Abs_calls b) ?_ | refine AOps.callq kn rfl rfl rfl rfl (Mul64_calls _ _ (abs_u _) (abs_u _)) ?_ | refine AOps.box kn rfl rfl rfl rfl rfl rfl ?_ | refine AOps.alloc Try.hX kn rfl rfl rfl rfl rfl rfl rfl ?_ | refine AOps.store Try.hX kn rfl rfl rfl rfl rfl rfl rfl rfl rfl rfl rfl ?_ | refine AOps.buildSlice Try.hX kn rfl rfl rfl rfl rfl rfl rfl rfl rfl rfl rfl rfl ?_ | refine AOps.append Try.hX kn rfl rfl rfl rfl rfl rfl rfl rfl rfl rfl rfl rfl rfl rfl rfl rfl rfl rfl rfl rfl rfl ?_ ?_ | refine AOps.toStr Try.hX kn rfl rfl rfl rfl rfl rfl rfl rfl rfl rfl rfl (by first | exact rfl | exact byte1 _) rfl ?_ | refine AOps.buildArr Try.hX kn rfl rfl rfl rfl rfl rfl rfl rfl ?_ | refine AOps.indexArr Try.hX kn rfl rfl rfl rfl rfl rfl rfl rfl rfl rfl rfl rfl ?_ | refine AOps.runP1 Try.hX kn rfl rfl ?_ | (refine AOps.splitT rfl rfl rfl asm (fun h => ?_) <;> (fail_if_success (cases h; done)) <;> rw [h]) | (refine AOps.splitF rfl rfl rfl asm (fun h => ?_) <;> (fail_if_success (cases h; done)) <;> rw [h]) | (refine AOps.split rfl rfl rfl (fun h => ?_) (fun h => ?_) <;> (fail_if_success (cases h; done)) <;> rw [h]) | refine AOps.drawn (by kernel_rfl) ?_)
  all_goals simp only [nAbs_snd, abs_u_eq] at *
  · simp_all [nMul, two]
  · simp_all [nMul, two]
  all_goals
    obtain ⟨h1, h2⟩ : nIn a = true ∧ nIn b = true := by simp_all
    obtain ⟨m1, m2⟩ := nAbs_mul a b h1 h2
    have m3 := mul_le_mul' (nAbs_bd a).1 (nAbs_bd a).2 (nAbs_bd b).1 (nAbs_bd b).2
    rw [show nMul a b = nBound (a * b) from by simp [nMul, h1, h2]]
    generalize (nAbs a).1 * (nAbs b).1 = q at *
    generalize a * b = r at *
  · have h3 : q / 18446744073709551616 ≠ 0 := by simp_all
    have h4 : ¬ (nIn r = true) := by rw [nIn_iff]; cases hs : (!(decide (a < 0) == decide (b < 0))) <;> simp only [hs, true_implies, reduceCtorEq, false_implies] at m1 m2 <;> omega
    simp [nBound, h4, two]
  · have h3 : q / 18446744073709551616 = 0 := by simp_all
    have h5 : q % 18446744073709551616 > 1152921504606846976 := by simp_all
    have h4 : ¬ (nIn r = true) := by rw [nIn_iff]; cases hs : (!(decide (a < 0) == decide (b < 0))) <;> simp only [hs, true_implies, reduceCtorEq, false_implies] at m1 m2 <;> omega
    simp [nBound, h4, two]
  · have h3 : q / 18446744073709551616 = 0 := by simp_all
    have h5 : q % 18446744073709551616 ≤ 1152921504606846976 := by simp_all
    have h6 := m2 (by assumption)
    have h4 : nIn r = true := nIn_iff.2 (by omega)
    rw [w64 (n := q % 18446744073709551616) (by omega) (by omega), w64 (by omega) (by omega)]
    simp only [nBound, h4, two, if_true]
    exact two_eq (by omega) rfl
  · have h3 : q / 18446744073709551616 = 0 := by simp_all
    have h5 : q % 18446744073709551616 ≤ 1152921504606846976 := by simp_all
    have h6 := m1 (by assumption)
    have h4 : nIn r = true := nIn_iff.2 (by omega)
    rw [w64 (n := q % 18446744073709551616) (by omega) (by omega)]
    simp only [nBound, h4, two, if_true]
    exact two_eq (by omega) rfl

end Go.Proofs
