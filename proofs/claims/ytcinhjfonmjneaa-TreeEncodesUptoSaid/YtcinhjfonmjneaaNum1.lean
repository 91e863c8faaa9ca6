/- What the functions In, Abs, bound, Add, Sub and Ediv of package num answer, for all numbers. -/
import Derived.Test.YtcinhjfonmjneaaData
import Derived.Test.YtcinhjfonmjneaaCtx
set_option linter.unusedVariables false
set_option linter.unusedSimpArgs false
namespace Go.Proofs
open Go.Abs

attribute [local irreducible] AK AOps QCalls

def nIn (n : Int) : Bool := decide (n ≥ -1152921504606846976) && decide (n ≤ 1152921504606846976)
def nAbs (n : Int) : Int × Int := if nIn n = true then (if n < 0 then -n else n, 0) else (0, 2)
def nBound (n : Int) : Int × Int := if nIn n = true then (n, 0) else (0, 11)
def nAdd (a b : Int) : Int × Int := if nIn a = true ∧ nIn b = true then nBound (a + b) else (0, 2)
def nSub (a b : Int) : Int × Int := if nIn a = true ∧ nIn b = true then nBound (a - b) else (0, 2)
def nMul (a b : Int) : Int × Int := if nIn a = true ∧ nIn b = true then nBound (a * b) else (0, 2)
def nEdiv (a b : Int) : Int × Int × Int := if nIn a = true ∧ nIn b = true then (if b = 0 then (0, 0, 6) else (a / b, a % b, 0)) else (0, 0, 2)

theorem ediv_of {a b q r : Int} (h : r + b * q = a) (h0 : 0 ≤ r) (hb : 0 < b ∧ r < b ∨ b < 0 ∧ r < -b) : a / b = q ∧ a % b = r := by
  rcases hb with ⟨hb, h1⟩ | ⟨hb, h1⟩
  · exact (Int.ediv_emod_unique hb).2 ⟨h, h0, h1⟩
  · have h2 : r + (-b) * (-q) = a := by rw [Int.neg_mul_neg]; exact h
    obtain ⟨h3, h4⟩ := (Int.ediv_emod_unique (by omega : 0 < -b)).2 ⟨h2, h0, h1⟩
    rw [Int.ediv_neg] at h3
    rw [Int.emod_neg] at h4
    exact ⟨by omega, h4⟩

theorem tdiv_facts (a b : Int) (hb : b ≠ 0) : a.tmod b + b * a.tdiv b = a ∧ (0 < b → -b < a.tmod b ∧ a.tmod b < b) ∧ (b < 0 → b < a.tmod b ∧ a.tmod b < -b) ∧
    ((0 ≤ a → 0 ≤ a.tmod b) ∧ (a ≤ 0 → a.tmod b ≤ 0)) ∧ (0 ≤ a → -a ≤ a.tdiv b ∧ a.tdiv b ≤ a) ∧ (a ≤ 0 → a ≤ a.tdiv b ∧ a.tdiv b ≤ -a) := by
  refine ⟨Int.tmod_add_mul_tdiv a b, fun h => ?_, fun h => ?_, ⟨fun h => Int.tmod_nonneg b h, fun h => ?_⟩, fun h => ?_, fun h => ?_⟩
  · refine ⟨?_, Int.tmod_lt_of_pos a h⟩
    have := Int.tmod_lt_of_pos (-a) h
    rw [Int.neg_tmod] at this; omega
  · have h1 := Int.tmod_lt_of_pos a (by omega : 0 < -b)
    have h2 := Int.tmod_lt_of_pos (-a) (by omega : 0 < -b)
    rw [Int.neg_tmod] at h2
    rw [Int.tmod_neg] at h1 h2
    omega
  · have := Int.tmod_nonneg b (by omega : 0 ≤ -a)
    rw [Int.neg_tmod] at this; omega
  · have := Int.natAbs_tdiv_le_natAbs a b; omega
  · have := Int.natAbs_tdiv_le_natAbs a b; omega

theorem nIn_iff {n : Int} : nIn n = true ↔ -1152921504606846976 ≤ n ∧ n ≤ 1152921504606846976 := by simp [nIn]

theorem In_calls (n : Int) : QCalls Try.prog Try.X 27 [.int .i64 n] (.bool (nIn n)) := by
  refine QCalls.of Try.func27 rfl (fun args w => Try.call27 args w) (Nat.le_of_ble_eq_true rfl) [(0, .c (.int .i64 n))] rfl fun β hβ => ?_; have hf := Try.func27
  repeat' (first | refine AK.runP Try.hX Try.mixed 300 rfl ?_ | refine AK.condTe rfl asm ?_ | refine AK.condFe rfl asm ?_ | (refine AK.condS rfl (fun h => ?_) (fun h => ?_) <;> first | (cases h; done) | rw [h] | skip) | refine AK.retQ Try.hX hf rfl rfl ?_ | refine AK.region Try.mixed rfl ?_ | refine AOps.done ?_ | refine AOps.runS Try.hX kn rfl ?_ | refine AOps.box kn rfl rfl rfl rfl rfl rfl ?_ | refine AOps.alloc Try.hX kn rfl rfl rfl rfl rfl rfl rfl ?_ | refine AOps.store Try.hX kn rfl rfl rfl rfl rfl rfl rfl rfl rfl rfl rfl ?_ | refine AOps.buildSlice Try.hX kn rfl rfl rfl rfl rfl rfl rfl rfl rfl rfl rfl rfl ?_ | refine AOps.append Try.hX kn rfl rfl rfl rfl rfl rfl rfl rfl rfl rfl rfl rfl rfl rfl rfl rfl rfl rfl rfl rfl rfl ?_ ?_ | refine AOps.toStr Try.hX kn rfl rfl rfl rfl rfl rfl rfl rfl rfl rfl rfl (by first | exact rfl | exact byte1 _) rfl ?_ | refine AOps.buildArr Try.hX kn rfl rfl rfl rfl rfl rfl rfl rfl ?_ | refine AOps.indexArr Try.hX kn rfl rfl rfl rfl rfl rfl rfl rfl rfl rfl rfl rfl ?_ | refine AOps.runP1 Try.hX kn rfl rfl ?_ | (refine AOps.splitT rfl rfl rfl asm (fun h => ?_) <;> (fail_if_success (cases h; done)) <;> rw [h]) | (refine AOps.splitF rfl rfl rfl asm (fun h => ?_) <;> (fail_if_success (cases h; done)) <;> rw [h]) | (refine AOps.split rfl rfl rfl (fun h => ?_) (fun h => ?_) <;> (fail_if_success (cases h; done)) <;> rw [h]) | refine AOps.drawn (by kernel_rfl) ?_)
  all_goals (simp_all [nIn]; try omega)

abbrev two (x : Int × Int) : CV := .tup [.int .i64 x.1, .int .i64 x.2]
abbrev three (x : Int × Int × Int) : CV := .tup [.int .i64 x.1, .int .i64 x.2.1, .int .i64 x.2.2]

theorem two_eq {a b c d : Int} (h : a = c) (h' : b = d) : CV.tup [.int .i64 a, .int .i64 b] = .tup [.int .i64 c, .int .i64 d] := by rw [h, h']
theorem three_eq {a b c d e f : Int} (h : a = d) (h' : b = e) (h'' : c = f) : CV.tup [.int .i64 a, .int .i64 b, .int .i64 c] = .tup [.int .i64 d, .int .i64 e, .int .i64 f] := by rw [h, h', h'']

theorem Abs_calls (n : Int) : QCalls Try.prog Try.X 26 [.int .i64 n] (two (nAbs n)) := by
  refine QCalls.of Try.func26 rfl (fun args w => Try.call26 args w) (Nat.le_of_ble_eq_true rfl) [(0, .c (.int .i64 n))] rfl fun β hβ => ?_; have hf := Try.func26
  repeat' (first | refine AK.runP Try.hX Try.mixed 300 rfl ?_ | refine AK.condTe rfl asm ?_ | refine AK.condFe rfl asm ?_ | (refine AK.condS rfl (fun h => ?_) (fun h => ?_) <;> first | (cases h; done) | rw [h] | skip) | refine AK.retQ Try.hX hf rfl rfl ?_ | refine AK.region Try.mixed rfl ?_ | refine AOps.done ?_ | refine AOps.runS Try.hX kn rfl ?_ | refine AOps.callq kn rfl rfl rfl rfl (In_calls n) ?_ | refine AOps.box kn rfl rfl rfl rfl rfl rfl ?_ | refine AOps.alloc Try.hX kn rfl rfl rfl rfl rfl rfl rfl ?_ | refine AOps.store Try.hX kn rfl rfl rfl rfl rfl rfl rfl rfl rfl rfl rfl ?_ | refine AOps.buildSlice Try.hX kn rfl rfl rfl rfl rfl rfl rfl rfl rfl rfl rfl rfl ?_ | refine AOps.append Try.hX kn rfl rfl rfl rfl rfl rfl rfl rfl rfl rfl rfl rfl rfl rfl rfl rfl rfl rfl rfl rfl rfl ?_ ?_ | refine AOps.toStr Try.hX kn rfl rfl rfl rfl rfl rfl rfl rfl rfl rfl rfl (by first | exact rfl | exact byte1 _) rfl ?_ | refine AOps.buildArr Try.hX kn rfl rfl rfl rfl rfl rfl rfl rfl ?_ | refine AOps.indexArr Try.hX kn rfl rfl rfl rfl rfl rfl rfl rfl rfl rfl rfl rfl ?_ | refine AOps.runP1 Try.hX kn rfl rfl ?_ | (refine AOps.splitT rfl rfl rfl asm (fun h => ?_) <;> (fail_if_success (cases h; done)) <;> rw [h]) | (refine AOps.splitF rfl rfl rfl asm (fun h => ?_) <;> (fail_if_success (cases h; done)) <;> rw [h]) | (refine AOps.split rfl rfl rfl (fun h => ?_) (fun h => ?_) <;> (fail_if_success (cases h; done)) <;> rw [h]) | refine AOps.drawn (by kernel_rfl) ?_)
  · simp_all [nAbs, two]
  · have h1 : nIn n = true := by simp_all
    have h2 := nIn_iff.1 h1
    rw [w64 (by omega) (by omega)]; simp_all [nAbs, two]
  · simp_all [nAbs, two]; omega

theorem bound_calls (n : Int) : QCalls Try.prog Try.X 87 [.int .i64 n] (two (nBound n)) := by
  refine QCalls.of Try.func87 rfl (fun args w => Try.call87 args w) (Nat.le_of_ble_eq_true rfl) [(0, .c (.int .i64 n))] rfl fun β hβ => ?_; have hf := Try.func87
  repeat' (first | refine AK.runP Try.hX Try.mixed 300 rfl ?_ | refine AK.condTe rfl asm ?_ | refine AK.condFe rfl asm ?_ | (refine AK.condS rfl (fun h => ?_) (fun h => ?_) <;> first | (cases h; done) | rw [h] | skip) | refine AK.retQ Try.hX hf rfl rfl ?_ | refine AK.region Try.mixed rfl ?_ | refine AOps.done ?_ | refine AOps.runS Try.hX kn rfl ?_ | refine AOps.callq kn rfl rfl rfl rfl (In_calls n) ?_ | refine AOps.box kn rfl rfl rfl rfl rfl rfl ?_ | refine AOps.alloc Try.hX kn rfl rfl rfl rfl rfl rfl rfl ?_ | refine AOps.store Try.hX kn rfl rfl rfl rfl rfl rfl rfl rfl rfl rfl rfl ?_ | refine AOps.buildSlice Try.hX kn rfl rfl rfl rfl rfl rfl rfl rfl rfl rfl rfl rfl ?_ | refine AOps.append Try.hX kn rfl rfl rfl rfl rfl rfl rfl rfl rfl rfl rfl rfl rfl rfl rfl rfl rfl rfl rfl rfl rfl ?_ ?_ | refine AOps.toStr Try.hX kn rfl rfl rfl rfl rfl rfl rfl rfl rfl rfl rfl (by first | exact rfl | exact byte1 _) rfl ?_ | refine AOps.buildArr Try.hX kn rfl rfl rfl rfl rfl rfl rfl rfl ?_ | refine AOps.indexArr Try.hX kn rfl rfl rfl rfl rfl rfl rfl rfl rfl rfl rfl rfl ?_ | refine AOps.runP1 Try.hX kn rfl rfl ?_ | (refine AOps.splitT rfl rfl rfl asm (fun h => ?_) <;> (fail_if_success (cases h; done)) <;> rw [h]) | (refine AOps.splitF rfl rfl rfl asm (fun h => ?_) <;> (fail_if_success (cases h; done)) <;> rw [h]) | (refine AOps.split rfl rfl rfl (fun h => ?_) (fun h => ?_) <;> (fail_if_success (cases h; done)) <;> rw [h]) | refine AOps.drawn (by kernel_rfl) ?_)
  all_goals simp_all [nBound, two]

theorem Add_calls (a b : Int) : QCalls Try.prog Try.X 32 [.int .i64 a, .int .i64 b] (two (nAdd a b)) := by
  refine QCalls.of Try.func32 rfl (fun args w => Try.call32 args w) (Nat.le_of_ble_eq_true rfl) [(0, .c (.int .i64 a)), (1, .c (.int .i64 b))] rfl fun β hβ => ?_; have hf := Try.func32
  repeat' (first | refine AK.runP Try.hX Try.mixed 300 rfl ?_ | refine AK.condTe rfl asm ?_ | refine AK.condFe rfl asm ?_ | (refine AK.condS rfl (fun h => ?_) (fun h => ?_) <;> first | (cases h; done) | rw [h] | skip) | refine AK.retQ Try.hX hf rfl rfl ?_ | refine AK.region Try.mixed rfl ?_ | refine AOps.done ?_ | refine AOps.runS Try.hX kn rfl ?_ | refine AOps.callq kn rfl rfl rfl rfl (In_calls a) ?_ | refine AOps.callq kn rfl rfl rfl rfl (In_calls b) ?_ | refine AOps.callq kn rfl rfl rfl rfl (bound_calls _) ?_ | refine AOps.box kn rfl rfl rfl rfl rfl rfl ?_ | refine AOps.alloc Try.hX kn rfl rfl rfl rfl rfl rfl rfl ?_ | refine AOps.store Try.hX kn rfl rfl rfl rfl rfl rfl rfl rfl rfl rfl rfl ?_ | refine AOps.buildSlice Try.hX kn rfl rfl rfl rfl rfl rfl rfl rfl rfl rfl rfl rfl ?_ | refine AOps.append Try.hX kn rfl rfl rfl rfl rfl rfl rfl rfl rfl rfl rfl rfl rfl rfl rfl rfl rfl rfl rfl rfl rfl ?_ ?_ | refine AOps.toStr Try.hX kn rfl rfl rfl rfl rfl rfl rfl rfl rfl rfl rfl (by first | exact rfl | exact byte1 _) rfl ?_ | refine AOps.buildArr Try.hX kn rfl rfl rfl rfl rfl rfl rfl rfl ?_ | refine AOps.indexArr Try.hX kn rfl rfl rfl rfl rfl rfl rfl rfl rfl rfl rfl rfl ?_ | refine AOps.runP1 Try.hX kn rfl rfl ?_ | (refine AOps.splitT rfl rfl rfl asm (fun h => ?_) <;> (fail_if_success (cases h; done)) <;> rw [h]) | (refine AOps.splitF rfl rfl rfl asm (fun h => ?_) <;> (fail_if_success (cases h; done)) <;> rw [h]) | (refine AOps.split rfl rfl rfl (fun h => ?_) (fun h => ?_) <;> (fail_if_success (cases h; done)) <;> rw [h]) | refine AOps.drawn (by kernel_rfl) ?_)
  all_goals try (simp_all [nAdd, two]; done)
  · rename_i h1
    obtain ⟨h1, h2⟩ : nIn a = true ∧ nIn b = true := by simp_all
    have h3 := nIn_iff.1 h1; have h4 := nIn_iff.1 h2
    rw [w64 (by omega) (by omega)]; simp [nAdd, two, h1, h2]

theorem Sub_calls (a b : Int) : QCalls Try.prog Try.X 34 [.int .i64 a, .int .i64 b] (two (nSub a b)) := by
  refine QCalls.of Try.func34 rfl (fun args w => Try.call34 args w) (Nat.le_of_ble_eq_true rfl) [(0, .c (.int .i64 a)), (1, .c (.int .i64 b))] rfl fun β hβ => ?_; have hf := Try.func34
  repeat' (first | refine AK.runP Try.hX Try.mixed 300 rfl ?_ | refine AK.condTe rfl asm ?_ | refine AK.condFe rfl asm ?_ | (refine AK.condS rfl (fun h => ?_) (fun h => ?_) <;> first | (cases h; done) | rw [h] | skip) | refine AK.retQ Try.hX hf rfl rfl ?_ | refine AK.region Try.mixed rfl ?_ | refine AOps.done ?_ | refine AOps.runS Try.hX kn rfl ?_ | refine AOps.callq kn rfl rfl rfl rfl (In_calls a) ?_ | refine AOps.callq kn rfl rfl rfl rfl (In_calls b) ?_ | refine AOps.callq kn rfl rfl rfl rfl (bound_calls _) ?_ | refine AOps.box kn rfl rfl rfl rfl rfl rfl ?_ | refine AOps.alloc Try.hX kn rfl rfl rfl rfl rfl rfl rfl ?_ | refine AOps.store Try.hX kn rfl rfl rfl rfl rfl rfl rfl rfl rfl rfl rfl ?_ | refine AOps.buildSlice Try.hX kn rfl rfl rfl rfl rfl rfl rfl rfl rfl rfl rfl rfl ?_ | refine AOps.append Try.hX kn rfl rfl rfl rfl rfl rfl rfl rfl rfl rfl rfl rfl rfl rfl rfl rfl rfl rfl rfl rfl rfl ?_ ?_ | refine AOps.toStr Try.hX kn rfl rfl rfl rfl rfl rfl rfl rfl rfl rfl rfl (by first | exact rfl | exact byte1 _) rfl ?_ | refine AOps.buildArr Try.hX kn rfl rfl rfl rfl rfl rfl rfl rfl ?_ | refine AOps.indexArr Try.hX kn rfl rfl rfl rfl rfl rfl rfl rfl rfl rfl rfl rfl ?_ | refine AOps.runP1 Try.hX kn rfl rfl ?_ | (refine AOps.splitT rfl rfl rfl asm (fun h => ?_) <;> (fail_if_success (cases h; done)) <;> rw [h]) | (refine AOps.splitF rfl rfl rfl asm (fun h => ?_) <;> (fail_if_success (cases h; done)) <;> rw [h]) | (refine AOps.split rfl rfl rfl (fun h => ?_) (fun h => ?_) <;> (fail_if_success (cases h; done)) <;> rw [h]) | refine AOps.drawn (by kernel_rfl) ?_)
  all_goals try (simp_all [nSub, two]; done)
  · rename_i h1
    obtain ⟨h1, h2⟩ : nIn a = true ∧ nIn b = true := by simp_all
    have h3 := nIn_iff.1 h1; have h4 := nIn_iff.1 h2
    rw [w64 (by omega) (by omega)]; simp [nSub, two, h1, h2]

theorem Ediv_calls (a b : Int) : QCalls Try.prog Try.X 24 [.int .i64 a, .int .i64 b] (three (nEdiv a b)) := by
  refine QCalls.of Try.func24 rfl (fun args w => Try.call24 args w) (Nat.le_of_ble_eq_true rfl) [(0, .c (.int .i64 a)), (1, .c (.int .i64 b))] rfl fun β hβ => ?_; have hf := Try.func24
  repeat' (first | refine AK.runP Try.hX Try.mixed 300 rfl ?_ | refine AK.condTe rfl asm ?_ | refine AK.condFe rfl asm ?_ | (refine AK.condS rfl (fun h => ?_) (fun h => ?_) <;> first | (cases h; done) | rw [h] | skip) | refine AK.retQ Try.hX hf rfl rfl ?_ | refine AK.region Try.mixed rfl ?_ | refine AOps.done ?_ | refine AOps.runS Try.hX kn rfl ?_ | refine AOps.callq kn rfl rfl rfl rfl (In_calls a) ?_ | refine AOps.callq kn rfl rfl rfl rfl (In_calls b) ?_ | (first | refine AOps.quo Try.hX kn rfl rfl rfl rfl rfl rfl rfl (by simp_all) ?_ | refine AOps.rem Try.hX kn rfl rfl rfl rfl rfl rfl rfl (by simp_all) ?_) | refine AOps.box kn rfl rfl rfl rfl rfl rfl ?_ | refine AOps.alloc Try.hX kn rfl rfl rfl rfl rfl rfl rfl ?_ | refine AOps.store Try.hX kn rfl rfl rfl rfl rfl rfl rfl rfl rfl rfl rfl ?_ | refine AOps.buildSlice Try.hX kn rfl rfl rfl rfl rfl rfl rfl rfl rfl rfl rfl rfl ?_ | refine AOps.append Try.hX kn rfl rfl rfl rfl rfl rfl rfl rfl rfl rfl rfl rfl rfl rfl rfl rfl rfl rfl rfl rfl rfl ?_ ?_ | refine AOps.toStr Try.hX kn rfl rfl rfl rfl rfl rfl rfl rfl rfl rfl rfl (by first | exact rfl | exact byte1 _) rfl ?_ | refine AOps.buildArr Try.hX kn rfl rfl rfl rfl rfl rfl rfl rfl ?_ | refine AOps.indexArr Try.hX kn rfl rfl rfl rfl rfl rfl rfl rfl rfl rfl rfl rfl ?_ | refine AOps.runP1 Try.hX kn rfl rfl ?_ | (refine AOps.splitT rfl rfl rfl asm (fun h => ?_) <;> (fail_if_success (cases h; done)) <;> rw [h]) | (refine AOps.splitF rfl rfl rfl asm (fun h => ?_) <;> (fail_if_success (cases h; done)) <;> rw [h]) | (refine AOps.split rfl rfl rfl (fun h => ?_) (fun h => ?_) <;> (fail_if_success (cases h; done)) <;> rw [h]) | refine AOps.drawn (by kernel_rfl) ?_)
  all_goals try (simp_all [nEdiv, three]; done)
  all_goals
    obtain ⟨h1, h2, h3⟩ : nIn a = true ∧ nIn b = true ∧ b ≠ 0 := by simp_all
    have h4 := nIn_iff.1 h1
    have h5 := nIn_iff.1 h2
    obtain ⟨e1, e2, e3, ⟨e4, e5⟩, e6, e7⟩ := tdiv_facts a b h3
    have e8 : -1152921504606846976 ≤ a.tdiv b ∧ a.tdiv b ≤ 1152921504606846976 := by omega
    rw [show nEdiv a b = (a / b, a % b, 0) from by simp [nEdiv, h1, h2, h3]]
  · have h6 : a.tmod b < 0 := by simp_all
    have h7 : b > 0 := by simp_all
    obtain ⟨h8, h9⟩ := ediv_of (a := a) (b := b) (q := a.tdiv b - 1) (r := a.tmod b + b) (by rw [Int.mul_sub]; omega) (by omega) (by omega)
    rw [w64 (n := a.tdiv b) (by omega) (by omega), w64 (by omega) (by omega), w64 (by omega) (by omega)]
    exact three_eq h8.symm h9.symm rfl
  · have h6 : a.tmod b < 0 := by simp_all
    have h7 : b < 0 := by simp_all; omega
    obtain ⟨h8, h9⟩ := ediv_of (a := a) (b := b) (q := a.tdiv b + 1) (r := a.tmod b - b) (by rw [Int.mul_add]; omega) (by omega) (by omega)
    rw [w64 (n := a.tdiv b) (by omega) (by omega), w64 (by omega) (by omega), w64 (by omega) (by omega)]
    exact three_eq h8.symm h9.symm rfl
  · have h6 : a.tmod b ≥ 0 := by simp_all
    obtain ⟨h8, h9⟩ := ediv_of (a := a) (b := b) (q := a.tdiv b) (r := a.tmod b) (by omega) (by omega) (by omega)
    rw [w64 (by omega) (by omega)]
    exact three_eq h8.symm h9.symm rfl

end Go.Proofs
