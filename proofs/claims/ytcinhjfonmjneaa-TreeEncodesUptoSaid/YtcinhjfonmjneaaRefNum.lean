/- What the functions In, Abs, Add, Sub and Ediv of package touchstoneref answer: what num's answer. -/
import Derived.Test.YtcinhjfonmjneaaNum2
import Derived.Test.YtcinhjfonmjneaaNumDiv
set_option linter.unusedVariables false
set_option linter.unusedSimpArgs false
namespace Go.Proofs
open Go.Abs
attribute [local irreducible] AK AOps QCalls

theorem neg64 (n : Int) (h : I64 n) : IntKind.i64.wrap (0 - n) = if n = -9223372036854775808 then n else -n := by
  split
  · rename_i h1; subst h1; decide
  · rw [w64 (by omega) (by omega)]; omega

theorem rIn_calls (n : Int) (hn : I64 n) : QCalls Try.prog Try.X 40 [.int .i64 n] (.bool (nIn n)) := by
  refine QCalls.of Try.func40 rfl (fun args w => Try.call40 args w) (Nat.le_of_ble_eq_true rfl) [(0, .c (.int .i64 n))] rfl fun β hβ => ?_; have hf := Try.func40
  repeat' (first | refine AK.runP Try.hX Try.mixed 300 rfl ?_ | refine AK.condTe rfl asm ?_ | refine AK.condFe rfl asm ?_ | (refine AK.condS rfl (fun h => ?_) (fun h => ?_) <;> first | (cases h; done) | rw [h] | skip) | refine AK.retQ Try.hX hf rfl rfl ?_ | refine AK.region Try.mixed rfl ?_ | refine AOps.done ?_ | refine AOps.runS Try.hX kn rfl ?_ | refine AOps.box kn rfl rfl rfl rfl rfl rfl ?_ | refine AOps.alloc Try.hX kn rfl rfl rfl rfl rfl rfl rfl ?_ | refine AOps.store Try.hX kn rfl rfl rfl rfl rfl rfl rfl rfl rfl rfl rfl ?_ | refine AOps.buildSlice Try.hX kn rfl rfl rfl rfl rfl rfl rfl rfl rfl rfl rfl rfl ?_ | refine AOps.append Try.hX kn rfl rfl rfl rfl rfl rfl rfl rfl rfl rfl rfl rfl rfl rfl rfl rfl rfl rfl rfl rfl rfl ?_ ?_ | refine AOps.toStr Try.hX kn rfl rfl rfl rfl rfl rfl rfl rfl rfl rfl rfl (by first | exact rfl | exact byte1 _) rfl ?_ | refine AOps.buildArr Try.hX kn rfl rfl rfl rfl rfl rfl rfl rfl ?_ | refine AOps.indexArr Try.hX kn rfl rfl rfl rfl rfl rfl rfl rfl rfl rfl rfl rfl ?_ | refine AOps.runP1 Try.hX kn rfl rfl ?_ | (refine AOps.splitT rfl rfl rfl asm (fun h => ?_) <;> (fail_if_success (cases h; done)) <;> rw [h]) | (refine AOps.splitF rfl rfl rfl asm (fun h => ?_) <;> (fail_if_success (cases h; done)) <;> rw [h]) | (refine AOps.split rfl rfl rfl (fun h => ?_) (fun h => ?_) <;> (fail_if_success (cases h; done)) <;> rw [h]) | refine AOps.drawn (by kernel_rfl) ?_)
  all_goals have hw := neg64 n hn
  all_goals generalize IntKind.i64.wrap (0 - n) = m at *
  all_goals
    refine congrArg CV.bool ?_
    rw [Bool.eq_iff_iff, nIn_iff]
    simp only [cond_true, cond_false, decide_eq_true_eq, decide_eq_false_iff_not, bne_iff_ne, beq_iff_eq, ne_eq, bne_eq_false_iff_eq, true_iff, false_iff, reduceCtorEq] at *
    split at hw <;> omega

theorem rAbs_calls (n : Int) (hn : I64 n) : QCalls Try.prog Try.X 38 [.int .i64 n] (two (nAbs n)) := by
  refine QCalls.of Try.func38 rfl (fun args w => Try.call38 args w) (Nat.le_of_ble_eq_true rfl) [(0, .c (.int .i64 n))] rfl fun β hβ => ?_; have hf := Try.func38
  repeat' (first | refine AK.runP Try.hX Try.mixed 300 rfl ?_ | refine AK.condTe rfl asm ?_ | refine AK.condFe rfl asm ?_ | (refine AK.condS rfl (fun h => ?_) (fun h => ?_) <;> first | (cases h; done) | rw [h] | skip) | refine AK.retQ Try.hX hf rfl rfl ?_ | refine AK.region Try.mixed rfl ?_ | refine AOps.done ?_ | refine AOps.runS Try.hX kn rfl ?_ | refine AOps.callq kn rfl rfl rfl rfl (rIn_calls n hn) ?_ | refine AOps.box kn rfl rfl rfl rfl rfl rfl ?_ | refine AOps.alloc Try.hX kn rfl rfl rfl rfl rfl rfl rfl ?_ | refine AOps.store Try.hX kn rfl rfl rfl rfl rfl rfl rfl rfl rfl rfl rfl ?_ | refine AOps.buildSlice Try.hX kn rfl rfl rfl rfl rfl rfl rfl rfl rfl rfl rfl rfl ?_ | refine AOps.append Try.hX kn rfl rfl rfl rfl rfl rfl rfl rfl rfl rfl rfl rfl rfl rfl rfl rfl rfl rfl rfl rfl rfl ?_ ?_ | refine AOps.toStr Try.hX kn rfl rfl rfl rfl rfl rfl rfl rfl rfl rfl rfl (by first | exact rfl | exact byte1 _) rfl ?_ | refine AOps.buildArr Try.hX kn rfl rfl rfl rfl rfl rfl rfl rfl ?_ | refine AOps.indexArr Try.hX kn rfl rfl rfl rfl rfl rfl rfl rfl rfl rfl rfl rfl ?_ | refine AOps.runP1 Try.hX kn rfl rfl ?_ | (refine AOps.splitT rfl rfl rfl asm (fun h => ?_) <;> (fail_if_success (cases h; done)) <;> rw [h]) | (refine AOps.splitF rfl rfl rfl asm (fun h => ?_) <;> (fail_if_success (cases h; done)) <;> rw [h]) | (refine AOps.split rfl rfl rfl (fun h => ?_) (fun h => ?_) <;> (fail_if_success (cases h; done)) <;> rw [h]) | refine AOps.drawn (by kernel_rfl) ?_)
  · simp_all [nAbs, two]
  · have h1 : nIn n = true := by simp_all
    have h2 := nIn_iff.1 h1
    have e1 : IntKind.i64.wrap (0 - n) = -n := by rw [neg64 n hn, if_neg (by omega)]
    rw [e1]
    simp only [nAbs, h1, if_true, two]
    refine two_eq ?_ rfl
    (split <;> split) <;> omega

theorem rAdd_calls (a b : Int) (ha : I64 a) (hb : I64 b) : QCalls Try.prog Try.X 33 [.int .i64 a, .int .i64 b] (two (nAdd a b)) := by
  refine QCalls.of Try.func33 rfl (fun args w => Try.call33 args w) (Nat.le_of_ble_eq_true rfl) [(0, .c (.int .i64 a)), (1, .c (.int .i64 b))] rfl fun β hβ => ?_; have hf := Try.func33
  repeat' (first | refine AK.runP Try.hX Try.mixed 300 rfl ?_ | refine AK.condTe rfl asm ?_ | refine AK.condFe rfl asm ?_ | (refine AK.condS rfl (fun h => ?_) (fun h => ?_) <;> first | (cases h; done) | rw [h] | skip) | refine AK.retQ Try.hX hf rfl rfl ?_ | refine AK.region Try.mixed rfl ?_ | refine AOps.done ?_ | refine AOps.runS Try.hX kn rfl ?_ | refine AOps.callq kn rfl rfl rfl rfl (rIn_calls a ha) ?_ | refine AOps.callq kn rfl rfl rfl rfl (rIn_calls b hb) ?_ | refine AOps.box kn rfl rfl rfl rfl rfl rfl ?_ | refine AOps.alloc Try.hX kn rfl rfl rfl rfl rfl rfl rfl ?_ | refine AOps.store Try.hX kn rfl rfl rfl rfl rfl rfl rfl rfl rfl rfl rfl ?_ | refine AOps.buildSlice Try.hX kn rfl rfl rfl rfl rfl rfl rfl rfl rfl rfl rfl rfl ?_ | refine AOps.append Try.hX kn rfl rfl rfl rfl rfl rfl rfl rfl rfl rfl rfl rfl rfl rfl rfl rfl rfl rfl rfl rfl rfl ?_ ?_ | refine AOps.toStr Try.hX kn rfl rfl rfl rfl rfl rfl rfl rfl rfl rfl rfl (by first | exact rfl | exact byte1 _) rfl ?_ | refine AOps.buildArr Try.hX kn rfl rfl rfl rfl rfl rfl rfl rfl ?_ | refine AOps.indexArr Try.hX kn rfl rfl rfl rfl rfl rfl rfl rfl rfl rfl rfl rfl ?_ | refine AOps.runP1 Try.hX kn rfl rfl ?_ | (refine AOps.splitT rfl rfl rfl asm (fun h => ?_) <;> (fail_if_success (cases h; done)) <;> rw [h]) | (refine AOps.splitF rfl rfl rfl asm (fun h => ?_) <;> (fail_if_success (cases h; done)) <;> rw [h]) | (refine AOps.split rfl rfl rfl (fun h => ?_) (fun h => ?_) <;> (fail_if_success (cases h; done)) <;> rw [h]) | refine AOps.drawn (by kernel_rfl) ?_)
  all_goals try (simp_all [nAdd, two]; done)
  all_goals
    obtain ⟨h1, h2⟩ : nIn a = true ∧ nIn b = true := by simp_all
    have h3 := nIn_iff.1 h1; have h4 := nIn_iff.1 h2
    have e1 : IntKind.i64.wrap (1152921504606846976 - b) = 1152921504606846976 - b := w64 (by omega) (by omega)
    have e2 : IntKind.i64.wrap (-1152921504606846976 - b) = -1152921504606846976 - b := w64 (by omega) (by omega)
    have e3 : IntKind.i64.wrap (a + b) = a + b := w64 (by omega) (by omega)
    simp only [e1, e2, e3] at *
    rw [show nAdd a b = nBound (a + b) from by simp [nAdd, h1, h2]]
    by_cases hh : nIn (a + b) = true
    · have h5 := nIn_iff.1 hh
      simp only [nBound, hh, if_true, two]
      all_goals first
      | rfl
      | (exfalso; simp_all <;> omega)
    · have h5 : ¬ (-1152921504606846976 ≤ a + b ∧ a + b ≤ 1152921504606846976) := fun h => hh (nIn_iff.2 h)
      simp only [nBound, hh, if_false, two]
      all_goals first
      | rfl
      | (exfalso; simp_all <;> omega)

theorem rSub_calls (a b : Int) (ha : I64 a) (hb : I64 b) : QCalls Try.prog Try.X 35 [.int .i64 a, .int .i64 b] (two (nSub a b)) := by
  by_cases hin : nIn a = true ∧ nIn b = true
  · have h3 := nIn_iff.1 hin.1; have h4 := nIn_iff.1 hin.2
    have e1 : IntKind.i64.wrap (0 - b) = -b := by rw [w64 (by omega) (by omega)]; omega
    have hq := rAdd_calls a (-b) ha (by unfold I64; omega)
    rw [← e1] at hq
    refine QCalls.of Try.func35 rfl (fun args w => Try.call35 args w) (Nat.le_of_ble_eq_true rfl) [(0, .c (.int .i64 a)), (1, .c (.int .i64 b))] rfl fun β hβ => ?_; have hf := Try.func35
    repeat' (first | refine AK.runP Try.hX Try.mixed 300 rfl ?_ | refine AK.condTe rfl asm ?_ | refine AK.condFe rfl asm ?_ | (refine AK.condS rfl (fun h => ?_) (fun h => ?_) <;> first | (cases h; done) | rw [h] | skip) | refine AK.retQ Try.hX hf rfl rfl ?_ | refine AK.region Try.mixed rfl ?_ | refine AOps.done ?_ | refine AOps.runS Try.hX kn rfl ?_ | refine AOps.callq kn rfl rfl rfl rfl (rIn_calls a ha) ?_ | refine AOps.callq kn rfl rfl rfl rfl (rIn_calls b hb) ?_ | refine AOps.callq kn rfl rfl rfl rfl (hq) ?_ | refine AOps.box kn rfl rfl rfl rfl rfl rfl ?_ | refine AOps.alloc Try.hX kn rfl rfl rfl rfl rfl rfl rfl ?_ | refine AOps.store Try.hX kn rfl rfl rfl rfl rfl rfl rfl rfl rfl rfl rfl ?_ | refine AOps.buildSlice Try.hX kn rfl rfl rfl rfl rfl rfl rfl rfl rfl rfl rfl rfl ?_ | refine AOps.append Try.hX kn rfl rfl rfl rfl rfl rfl rfl rfl rfl rfl rfl rfl rfl rfl rfl rfl rfl rfl rfl rfl rfl ?_ ?_ | refine AOps.toStr Try.hX kn rfl rfl rfl rfl rfl rfl rfl rfl rfl rfl rfl (by first | exact rfl | exact byte1 _) rfl ?_ | refine AOps.buildArr Try.hX kn rfl rfl rfl rfl rfl rfl rfl rfl ?_ | refine AOps.indexArr Try.hX kn rfl rfl rfl rfl rfl rfl rfl rfl rfl rfl rfl rfl ?_ | refine AOps.runP1 Try.hX kn rfl rfl ?_ | (refine AOps.splitT rfl rfl rfl asm (fun h => ?_) <;> (fail_if_success (cases h; done)) <;> rw [h]) | (refine AOps.splitF rfl rfl rfl asm (fun h => ?_) <;> (fail_if_success (cases h; done)) <;> rw [h]) | (refine AOps.split rfl rfl rfl (fun h => ?_) (fun h => ?_) <;> (fail_if_success (cases h; done)) <;> rw [h]) | refine AOps.drawn (by kernel_rfl) ?_)
    all_goals try (simp_all; done)
    all_goals
      rw [e1]
      have h5 : nIn (-b) = true := nIn_iff.2 (by omega)
      simp only [nAdd, nSub, hin.1, hin.2, h5, and_self, if_true, Int.sub_eq_add_neg]
  · refine QCalls.of Try.func35 rfl (fun args w => Try.call35 args w) (Nat.le_of_ble_eq_true rfl) [(0, .c (.int .i64 a)), (1, .c (.int .i64 b))] rfl fun β hβ => ?_; have hf := Try.func35
    repeat' (first | refine AK.runP Try.hX Try.mixed 300 rfl ?_ | refine AK.condTe rfl asm ?_ | refine AK.condFe rfl asm ?_ | (refine AK.condS rfl (fun h => ?_) (fun h => ?_) <;> first | (cases h; done) | rw [h] | skip) | refine AK.retQ Try.hX hf rfl rfl ?_ | refine AK.region Try.mixed rfl ?_ | refine AOps.done ?_ | refine AOps.runS Try.hX kn rfl ?_ | refine AOps.callq kn rfl rfl rfl rfl (rIn_calls a ha) ?_ | refine AOps.callq kn rfl rfl rfl rfl (rIn_calls b hb) ?_ | refine AOps.box kn rfl rfl rfl rfl rfl rfl ?_ | refine AOps.alloc Try.hX kn rfl rfl rfl rfl rfl rfl rfl ?_ | refine AOps.store Try.hX kn rfl rfl rfl rfl rfl rfl rfl rfl rfl rfl rfl ?_ | refine AOps.buildSlice Try.hX kn rfl rfl rfl rfl rfl rfl rfl rfl rfl rfl rfl rfl ?_ | refine AOps.append Try.hX kn rfl rfl rfl rfl rfl rfl rfl rfl rfl rfl rfl rfl rfl rfl rfl rfl rfl rfl rfl rfl rfl ?_ ?_ | refine AOps.toStr Try.hX kn rfl rfl rfl rfl rfl rfl rfl rfl rfl rfl rfl (by first | exact rfl | exact byte1 _) rfl ?_ | refine AOps.buildArr Try.hX kn rfl rfl rfl rfl rfl rfl rfl rfl ?_ | refine AOps.indexArr Try.hX kn rfl rfl rfl rfl rfl rfl rfl rfl rfl rfl rfl rfl ?_ | refine AOps.runP1 Try.hX kn rfl rfl ?_ | (refine AOps.splitT rfl rfl rfl asm (fun h => ?_) <;> (fail_if_success (cases h; done)) <;> rw [h]) | (refine AOps.splitF rfl rfl rfl asm (fun h => ?_) <;> (fail_if_success (cases h; done)) <;> rw [h]) | (refine AOps.split rfl rfl rfl (fun h => ?_) (fun h => ?_) <;> (fail_if_success (cases h; done)) <;> rw [h]) | refine AOps.drawn (by kernel_rfl) ?_)
    all_goals try (simp_all [nSub, two]; done)

theorem rest_eq (a b : Int) (hb : b ≠ 0) : (a.tmod b.natAbs + b.natAbs).tmod b.natAbs = a % b := by
  obtain ⟨e1, e2, e3, ⟨e4, e5⟩, e6, e7⟩ := tdiv_facts a b.natAbs (by omega)
  have q1 := e2 (by omega)
  have hm : a % b = a % b.natAbs := by
    rcases Int.natAbs_eq b with h | h
    · rw [← h]
    · rw [h, Int.emod_neg]; simp
  rw [hm, Int.tmod_eq_emod_of_nonneg (by omega)]
  conv => rhs; rw [← e1]
  rw [Int.add_mul_emod_self_left, Int.add_emod_right]

theorem quo_eq (a b : Int) (hb : b ≠ 0) : (a - a % b).tdiv b = a / b := by
  have h := Int.emod_add_mul_ediv a b
  have : a - a % b = b * (a / b) := by omega
  rw [this, Int.mul_tdiv_cancel_left _ hb]

theorem rEdiv_calls (a b : Int) (ha : I64 a) (hb : I64 b) : QCalls Try.prog Try.X 39 [.int .i64 a, .int .i64 b] (three (nEdiv a b)) := by
  have hmx : nIn b = true → (if IntKind.i64.wrap (0 - b) > b then IntKind.i64.wrap (0 - b) else b) = b.natAbs := by
    intro h
    have h4 := nIn_iff.1 h
    have e1 : IntKind.i64.wrap (0 - b) = -b := by rw [neg64 b hb, if_neg (by omega)]
    rw [e1]
    split <;> omega
  refine QCalls.of Try.func39 rfl (fun args w => Try.call39 args w) (Nat.le_of_ble_eq_true rfl) [(0, .c (.int .i64 a)), (1, .c (.int .i64 b))] rfl fun β hβ => ?_; have hf := Try.func39
  repeat' (first | refine AK.runP Try.hX Try.mixed 300 rfl ?_ | refine AK.condTe rfl asm ?_ | refine AK.condFe rfl asm ?_ | (refine AK.condS rfl (fun h => ?_) (fun h => ?_) <;> first | (cases h; done) | rw [h] | skip) | refine AK.retQ Try.hX hf rfl rfl ?_ | refine AK.region Try.mixed rfl ?_ | refine AOps.done ?_ | refine AOps.runS Try.hX kn rfl ?_ | refine AOps.callq kn rfl rfl rfl rfl (rIn_calls a ha) ?_ | refine AOps.callq kn rfl rfl rfl rfl (rIn_calls b hb) ?_ | (first | refine AOps.quo Try.hX kn rfl rfl rfl rfl rfl rfl rfl ((by (have h1 : nIn b = true := by simp_all); (have h2 : b ≠ 0 := by simp_all); rw [hmx h1]; omega)) ?_ | refine AOps.rem Try.hX kn rfl rfl rfl rfl rfl rfl rfl ((by (have h1 : nIn b = true := by simp_all); (have h2 : b ≠ 0 := by simp_all); rw [hmx h1]; omega)) ?_) | (first | refine AOps.quo Try.hX kn rfl rfl rfl rfl rfl rfl rfl (by simp_all) ?_ | refine AOps.rem Try.hX kn rfl rfl rfl rfl rfl rfl rfl (by simp_all) ?_) | refine AOps.box kn rfl rfl rfl rfl rfl rfl ?_ | refine AOps.alloc Try.hX kn rfl rfl rfl rfl rfl rfl rfl ?_ | refine AOps.store Try.hX kn rfl rfl rfl rfl rfl rfl rfl rfl rfl rfl rfl ?_ | refine AOps.buildSlice Try.hX kn rfl rfl rfl rfl rfl rfl rfl rfl rfl rfl rfl rfl ?_ | refine AOps.append Try.hX kn rfl rfl rfl rfl rfl rfl rfl rfl rfl rfl rfl rfl rfl rfl rfl rfl rfl rfl rfl rfl rfl ?_ ?_ | refine AOps.toStr Try.hX kn rfl rfl rfl rfl rfl rfl rfl rfl rfl rfl rfl (by first | exact rfl | exact byte1 _) rfl ?_ | refine AOps.buildArr Try.hX kn rfl rfl rfl rfl rfl rfl rfl rfl ?_ | refine AOps.indexArr Try.hX kn rfl rfl rfl rfl rfl rfl rfl rfl rfl rfl rfl rfl ?_ | refine AOps.runP1 Try.hX kn rfl rfl ?_ | (refine AOps.splitT rfl rfl rfl asm (fun h => ?_) <;> (fail_if_success (cases h; done)) <;> rw [h]) | (refine AOps.splitF rfl rfl rfl asm (fun h => ?_) <;> (fail_if_success (cases h; done)) <;> rw [h]) | (refine AOps.split rfl rfl rfl (fun h => ?_) (fun h => ?_) <;> (fail_if_success (cases h; done)) <;> rw [h]) | refine AOps.drawn (by kernel_rfl) ?_)
  all_goals try (simp_all [nEdiv, three]; done)
  all_goals
    obtain ⟨h1, h2, h3⟩ : nIn a = true ∧ nIn b = true ∧ b ≠ 0 := by simp_all
    have h4 := nIn_iff.1 h1
    have h5 := nIn_iff.1 h2
    rw [show nEdiv a b = (a / b, a % b, 0) from by simp [nEdiv, h1, h2, h3]]
    rw [hmx h2]
    have hr := rest_eq a b h3
    have hq := quo_eq a b h3
    have f1 := Int.emod_nonneg a h3
    have f2 := Int.emod_lt a h3
    obtain ⟨e1, e2, e3, ⟨e4, e5⟩, e6, e7⟩ := tdiv_facts a b.natAbs (by omega)
    have q1 := e2 (by omega)
    rw [w64 (n := a.tmod b.natAbs + b.natAbs) (by omega) (by omega), hr, w64 (n := a - a % b) (by omega) (by omega), hq]
    have f3 := Int.natAbs_ediv_le_natAbs a b
    rw [w64 (by omega) (by omega)]

/-- The product by so many of the second one's leading bits. -/
def mulN (x y : Int) (j : Nat) : Int := x * (y / 2 ^ j)

theorem mulN_step (x y : Int) (i : Nat) : mulN x y i = mulN x y (i + 1) * 2 + (if y / 2 ^ i % 2 = 1 then x else 0) := by
  unfold mulN
  have h1 : y / 2 ^ (i + 1) = y / 2 ^ i / 2 := by
    rw [Int.pow_succ, Int.ediv_ediv_of_nonneg (Int.le_of_lt (Int.pow_pos (by decide)))]
  rw [h1]
  generalize y / 2 ^ i = z
  have h2 : z = z / 2 * 2 + z % 2 := by omega
  have h3 : x * z = x * (z / 2) * 2 + x * (z % 2) := by
    conv => lhs; rw [h2]
    rw [Int.mul_add, Int.mul_assoc]
  rw [h3]
  split
  · rename_i h; rw [h]; omega
  · rename_i h
    have : z % 2 = 0 := by omega
    rw [this]; omega

theorem mulN_le (x y : Int) (hx : 0 ≤ x) (hy : 0 ≤ y) (i : Nat) : 0 ≤ mulN x y i ∧ mulN x y i ≤ x * y := by
  unfold mulN
  have h1 : 0 ≤ y / 2 ^ i := Int.ediv_nonneg hy (Int.le_of_lt (Int.pow_pos (by decide)))
  have h2 : y / 2 ^ i ≤ y := Int.ediv_le_self _ hy
  exact ⟨Int.mul_nonneg hx h1, Int.mul_le_mul_of_nonneg_left h2 hx⟩

theorem mulN_zero (x y : Int) : mulN x y 0 = x * y := by simp [mulN]
theorem mulN_top (x y : Int) (h0 : 0 ≤ y) (h : y ≤ 1152921504606846976) : mulN x y 61 = 0 := by
  unfold mulN
  rw [Int.ediv_eq_zero_of_lt h0 (by omega)]; simp

theorem nMul_over (a b : Int) (h1 : nIn a = true) (h2 : nIn b = true) (h : 1152921504606846976 < (nAbs a).1 * (nAbs b).1) : nMul a b = (0, 11) := by
  obtain ⟨m1, m2⟩ := nAbs_mul a b h1 h2
  have m3 := mul_le_mul' (nAbs_bd a).1 (nAbs_bd a).2 (nAbs_bd b).1 (nAbs_bd b).2
  rw [show nMul a b = nBound (a * b) from by simp [nMul, h1, h2]]
  generalize (nAbs a).1 * (nAbs b).1 = q at *
  generalize a * b = r at *
  have h4 : ¬ (nIn r = true) := by rw [nIn_iff]; cases hs : (!(decide (a < 0) == decide (b < 0))) <;> simp only [hs, true_implies, reduceCtorEq, false_implies] at m1 m2 <;> omega
  simp [nBound, h4]

theorem nMul_fits (a b : Int) (h1 : nIn a = true) (h2 : nIn b = true) (h : (nAbs a).1 * (nAbs b).1 ≤ 1152921504606846976) : nMul a b = (a * b, 0) ∧ a * b = if a < 0 ∧ b > 0 ∨ a > 0 ∧ b < 0 then -((nAbs a).1 * (nAbs b).1) else (nAbs a).1 * (nAbs b).1 := by
  have m3 := mul_le_mul' (nAbs_bd a).1 (nAbs_bd a).2 (nAbs_bd b).1 (nAbs_bd b).2
  have hz : a * b = if a < 0 ∧ b > 0 ∨ a > 0 ∧ b < 0 then -((nAbs a).1 * (nAbs b).1) else (nAbs a).1 * (nAbs b).1 := by
    have pa : ∀ n : Int, nIn n = true → (nAbs n).1 = if n < 0 then -n else n := by intro n hn; simp [nAbs, hn]
    rw [pa a h1, pa b h2]
    clear m3 h pa
    rcases Int.lt_trichotomy a 0 with e1 | e1 | e1 <;> rcases Int.lt_trichotomy b 0 with e2 | e2 | e2
    all_goals try subst e1
    all_goals try subst e2
    · have k2 : ¬ (a < 0 ∧ b > 0 ∨ a > 0 ∧ b < 0) := by omega
      rw [if_pos e1, if_pos e2, if_neg k2, Int.neg_mul_neg]
    · simp
    · have k1 : ¬ b < 0 := by omega
      have k2 : a < 0 ∧ b > 0 ∨ a > 0 ∧ b < 0 := by omega
      rw [if_pos e1, if_neg k1, if_pos k2, Int.neg_mul, Int.neg_neg]
    · simp
    · simp
    · simp
    · have k1 : ¬ a < 0 := by omega
      have k2 : a < 0 ∧ b > 0 ∨ a > 0 ∧ b < 0 := by omega
      rw [if_neg k1, if_pos e2, if_pos k2, Int.mul_neg, Int.neg_neg]
    · simp
    · have k1 : ¬ a < 0 := by omega
      have k3 : ¬ b < 0 := by omega
      have k2 : ¬ (a < 0 ∧ b > 0 ∨ a > 0 ∧ b < 0) := by omega
      rw [if_neg k1, if_neg k3, if_neg k2]
  refine ⟨?_, hz⟩
  have h4 : nIn (a * b) = true := by
    rw [nIn_iff, hz]; split <;> omega
  simp [nMul, h1, h2, nBound, h4]

theorem max_abs (a : Int) (ha : I64 a) (h : nIn a = true) : (if IntKind.i64.wrap (0 - a) > a then IntKind.i64.wrap (0 - a) else a) = (nAbs a).1 := by
  have h1 := nIn_iff.1 h
  have e1 : IntKind.i64.wrap (0 - a) = -a := by rw [neg64 a ha, if_neg (by omega)]
  rw [e1]
  simp only [nAbs, h, if_true]
  split <;> split <;> omega

theorem shr_fdiv (y : Int) (i : Nat) (hi : i ≤ 60) : y.fdiv (2 ^ min i (IntKind.bits .i64)) = y / 2 ^ i := by
  rw [show min i (IntKind.bits .i64) = i from by simp [IntKind.bits]; omega]
  exact Int.fdiv_eq_ediv_of_nonneg _ (Int.le_of_lt (Int.pow_pos (by decide)))

set_option maxHeartbeats 1000000 in
theorem rMul_calls (a b : Int) (ha : I64 a) (hb : I64 b) : QCalls Try.prog Try.X 37 [.int .i64 a, .int .i64 b] (two (nMul a b)) := by
  refine QCalls.of Try.func37 rfl (fun args w => Try.call37 args w) (Nat.le_of_ble_eq_true rfl) [(0, .c (.int .i64 a)), (1, .c (.int .i64 b))] rfl fun β hβ => ?_; have hf := Try.func37
  repeat' (first | refine AK.runP Try.hX Try.mixed 300 rfl ?_ | refine AK.condTe rfl asm ?_ | refine AK.condFe rfl asm ?_ | (refine AK.condS rfl (fun h => ?_) (fun h => ?_) <;> first | (cases h; done) | rw [h] | skip) | refine AK.retQ Try.hX hf rfl rfl ?_ | refine AK.region Try.mixed rfl ?_ | refine AOps.done ?_ | refine AOps.runS Try.hX kn rfl ?_ | refine AOps.callq kn rfl rfl rfl rfl (rIn_calls a ha) ?_ | refine AOps.callq kn rfl rfl rfl rfl (rIn_calls b hb) ?_ | refine AOps.box kn rfl rfl rfl rfl rfl rfl ?_ | refine AOps.alloc Try.hX kn rfl rfl rfl rfl rfl rfl rfl ?_ | refine AOps.store Try.hX kn rfl rfl rfl rfl rfl rfl rfl rfl rfl rfl rfl ?_ | refine AOps.buildSlice Try.hX kn rfl rfl rfl rfl rfl rfl rfl rfl rfl rfl rfl rfl ?_ | refine AOps.append Try.hX kn rfl rfl rfl rfl rfl rfl rfl rfl rfl rfl rfl rfl rfl rfl rfl rfl rfl rfl rfl rfl rfl ?_ ?_ | refine AOps.toStr Try.hX kn rfl rfl rfl rfl rfl rfl rfl rfl rfl rfl rfl (by first | exact rfl | exact byte1 _) rfl ?_ | refine AOps.buildArr Try.hX kn rfl rfl rfl rfl rfl rfl rfl rfl ?_ | refine AOps.indexArr Try.hX kn rfl rfl rfl rfl rfl rfl rfl rfl rfl rfl rfl rfl ?_ | refine AOps.runP1 Try.hX kn rfl rfl ?_ | (refine AOps.splitT rfl rfl rfl asm (fun h => ?_) <;> (fail_if_success (cases h; done)) <;> rw [h]) | (refine AOps.splitF rfl rfl rfl asm (fun h => ?_) <;> (fail_if_success (cases h; done)) <;> rw [h]) | (refine AOps.split rfl rfl rfl (fun h => ?_) (fun h => ?_) <;> (fail_if_success (cases h; done)) <;> rw [h]) | refine AOps.drawn (by kernel_rfl) ?_)
  · simp_all [nMul, two]
  · simp_all [nMul, two]
  · obtain ⟨h1, h2⟩ : nIn a = true ∧ nIn b = true := by simp_all
    rw [max_abs a ha h1, max_abs b hb h2]
    obtain ⟨x0, x1⟩ := nAbs_bd a
    obtain ⟨y0, y1⟩ := nAbs_bd b
    have hov := nMul_over a b h1 h2
    have hfit := nMul_fits a b h1 h2
    generalize (nAbs a).1 = x at *
    generalize (nAbs b).1 = y at *
    refine AK.loopE (α := Nat) (fun j => j ≤ 61 ∧ mulN x y j ≤ 1152921504606846976) (fun j => j)
      (fun j => [(9, .c (.int .i64 (j - 1 : Int))), (8, .c (.int .i64 (mulN x y j))), (0, .c (.int .i64 a)), (1, .c (.int .i64 b)), (6, .c (.int .i64 x)), (7, .c (.int .i64 y))]) (fun _ => []) (fun _ => []) [] 61
      ⟨by omega, by rw [mulN_top x y y0 y1]; omega⟩ ⟨.inl rfl, .inl (by rw [mulN_top x y y0 y1]; rfl), .inl rfl, .inl rfl, .inl rfl, .inl rfl, trivial⟩ trivial trivial rfl rfl rfl ?_
    rintro j ⟨hj, hle⟩ ih
    have hm1 := mulN_le x y x0 y0 j
    repeat' (first | refine AK.runP Try.hX Try.mixed 300 rfl ?_ | refine AK.condTe rfl asm ?_ | refine AK.condFe rfl asm ?_ | (refine AK.condS rfl (fun h => ?_) (fun h => ?_) <;> first | (cases h; done) | rw [h] | skip) | refine AK.retQ Try.hX hf rfl rfl ?_ | refine AK.region Try.mixed rfl ?_ | refine AOps.done ?_ | refine AOps.runS Try.hX kn rfl ?_ | refine AOps.shr Try.hX kn rfl rfl rfl rfl rfl rfl (n := j - 1) (by rw [wu64 (by simp_all) (by omega)]; simp_all; omega) ?_ | refine AOps.box kn rfl rfl rfl rfl rfl rfl ?_ | refine AOps.alloc Try.hX kn rfl rfl rfl rfl rfl rfl rfl ?_ | refine AOps.store Try.hX kn rfl rfl rfl rfl rfl rfl rfl rfl rfl rfl rfl ?_ | refine AOps.buildSlice Try.hX kn rfl rfl rfl rfl rfl rfl rfl rfl rfl rfl rfl rfl ?_ | refine AOps.append Try.hX kn rfl rfl rfl rfl rfl rfl rfl rfl rfl rfl rfl rfl rfl rfl rfl rfl rfl rfl rfl rfl rfl ?_ ?_ | refine AOps.toStr Try.hX kn rfl rfl rfl rfl rfl rfl rfl rfl rfl rfl rfl (by first | exact rfl | exact byte1 _) rfl ?_ | refine AOps.buildArr Try.hX kn rfl rfl rfl rfl rfl rfl rfl rfl ?_ | refine AOps.indexArr Try.hX kn rfl rfl rfl rfl rfl rfl rfl rfl rfl rfl rfl rfl ?_ | refine AOps.runP1 Try.hX kn rfl rfl ?_ | (refine AOps.splitT rfl rfl rfl asm (fun h => ?_) <;> (fail_if_success (cases h; done)) <;> rw [h]) | (refine AOps.splitF rfl rfl rfl asm (fun h => ?_) <;> (fail_if_success (cases h; done)) <;> rw [h]) | (refine AOps.split rfl rfl rfl (fun h => ?_) (fun h => ?_) <;> (fail_if_success (cases h; done)) <;> rw [h]) | refine AOps.drawn (by kernel_rfl) ?_)
    all_goals simp only [cond_true, cond_false, decide_eq_true_eq, decide_eq_false_iff_not, beq_iff_eq, beq_eq_false_iff_ne, ne_eq] at *
    rotate_left 4
    iterate 7
      · have hj0 : j = 0 := by omega
        subst hj0
        rw [mulN_zero] at *
        obtain ⟨f1, f2⟩ := hfit hle
        try rw [w64 (n := 0 - x * y) (by omega) (by omega)]
        rw [f1]
        refine two_eq ?_ rfl
        rw [f2]
        split <;> first | omega | (exfalso; simp_all; done) | (exfalso; simp_all; omega)
    all_goals
      obtain ⟨i, rfl⟩ : ∃ i, j = i + 1 := ⟨j - 1, by omega⟩
      have hs := mulN_step x y i
      have hm2 := mulN_le x y x0 y0 i
      have hsh := shr_fdiv y i (by omega)
      have hz : 0 ≤ y / 2 ^ i := Int.ediv_nonneg y0 (Int.le_of_lt (Int.pow_pos (by decide)))
      simp only [Nat.add_sub_cancel, hsh, Int.tmod_eq_emod_of_nonneg hz] at *
      generalize y / 2 ^ i = z at *
      clear hfit
    · rw [hov (by split at hs <;> omega)]
    · have e1 : IntKind.i64.wrap (mulN x y (i + 1) * 2) = mulN x y (i + 1) * 2 := w64 (by omega) (by omega)
      have e2 : IntKind.i64.wrap (1152921504606846976 - x) = 1152921504606846976 - x := w64 (by omega) (by omega)
      simp only [e1, e2] at *
      rw [hov (by split at hs <;> first | omega | (exfalso; simp_all; done))]
    · have e1 : IntKind.i64.wrap (mulN x y (i + 1) * 2) = mulN x y (i + 1) * 2 := w64 (by omega) (by omega)
      have e2 : IntKind.i64.wrap (1152921504606846976 - x) = 1152921504606846976 - x := w64 (by omega) (by omega)
      simp only [e1, e2] at *
      rw [if_pos (by assumption)] at hs
      refine AK.again (ih i ⟨by omega, by omega⟩ (by omega)) ⟨.inl ?_, .inl ?_, .inl rfl, .inl rfl, .inl rfl, .inl rfl, trivial⟩ trivial trivial rfl rfl rfl
      · refine congrArg (fun n => some (AV.c (CV.int .i64 n))) ?_
        show IntKind.i64.wrap (((i + 1 : Nat) : Int) - 1 - 1) = _
        rw [w64 (by omega) (by omega)]; omega
      · refine congrArg (fun n => some (AV.c (CV.int .i64 n))) ?_
        rw [w64 (by omega) (by omega), hs]
    · have e1 : IntKind.i64.wrap (mulN x y (i + 1) * 2) = mulN x y (i + 1) * 2 := w64 (by omega) (by omega)
      rw [if_neg (by assumption)] at hs
      refine AK.again (ih i ⟨by omega, by omega⟩ (by omega)) ⟨.inl ?_, .inl ?_, .inl rfl, .inl rfl, .inl rfl, .inl rfl, trivial⟩ trivial trivial rfl rfl rfl
      · refine congrArg (fun n => some (AV.c (CV.int .i64 n))) ?_
        show IntKind.i64.wrap (((i + 1 : Nat) : Int) - 1 - 1) = _
        rw [w64 (by omega) (by omega)]; omega
      · refine congrArg (fun n => some (AV.c (CV.int .i64 n))) ?_
        rw [e1, hs]; omega

end Go.Proofs
