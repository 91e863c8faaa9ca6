/- Numbers as bytes, read from the front: what they come to, how they end. -/
import Derived.Test.YtcinhjfonmjneaaTPure
set_option linter.unusedVariables false
set_option linter.unusedSimpArgs false
namespace Go.Abs

/-- Seven bits each, the lowest first. -/
def valT : List UInt8 → Nat
  | [] => 0
  | b :: l => b.toNat % 128 + 128 * valT l
/-- Likewise, six bits first. -/
def val : List UInt8 → Nat
  | [] => 0
  | b :: l => b.toNat % 64 + 64 * valT l
def wtT (i : Nat) : Nat := 128 ^ i
def wt : Nat → Nat
  | 0 => 1
  | i + 1 => 64 * 128 ^ i
theorem val_first (b : UInt8) : val [b] = b.toNat % 64 := by simp [val, valT]
/-- Bytes that go on, then one that does not. -/
def endB : List UInt8 → Prop
  | [] => False
  | [b] => b.toNat < 128
  | b :: l => 128 ≤ b.toNat ∧ endB l
theorem endB_cons {b : UInt8} {l : List UInt8} (h : l ≠ []) : endB (b :: l) ↔ 128 ≤ b.toNat ∧ endB l := by
  cases l with
  | nil => exact absurd rfl h
  | cons x l => rfl
theorem putB_ne (c m : Nat) : putB c m ≠ [] := by rw [putB]; split <;> simp
theorem putB_end : ∀ (m c : Nat), c < 128 → endB (putB c m)
  | m, c, hc => by
    by_cases h : m = 0
    · subst h; rw [putB_zero]
      show (byteOf (c : Nat)).toNat < 128
      rw [byteOf_nat c (by omega)]; exact hc
    · rw [putB_more c m h, endB_cons (putB_ne _ _), byteOf_nat _ (by omega)]
      exact ⟨by omega, putB_end (m / 128) (m % 128) (Nat.mod_lt _ (by omega))⟩
termination_by m => m
decreasing_by omega
theorem putB_valT : ∀ (m c : Nat), c < 128 → valT (putB c m) = c + 128 * m
  | m, c, hc => by
    by_cases h : m = 0
    · subst h; rw [putB_zero]
      simp only [valT, byteOf_nat c (by omega)]; omega
    · rw [putB_more c m h]
      simp only [valT]
      rw [byteOf_nat _ (by omega), putB_valT (m / 128) (m % 128) (Nat.mod_lt _ (by omega))]
      omega
termination_by m => m
decreasing_by omega
theorem putB_len : ∀ (d m c : Nat), m < 128 ^ d → (putB c m).length ≤ d + 1
  | d, m, c, hm => by
    by_cases h : m = 0
    · subst h; rw [putB_zero]; simp
    · rw [putB_more c m h]
      cases d with
      | zero => simp at hm; omega
      | succ d =>
        have := putB_len d (m / 128) (m % 128) (by rw [Nat.pow_succ] at hm; omega)
        simp only [List.length_cons]; omega
/-- The first byte tells the sign. -/
def neg1 : List UInt8 → Bool
  | [] => false
  | b :: _ => decide (b.toNat / 64 % 2 = 1)
theorem numB_facts (n : Int) (h1 : -maxI ≤ n) (h2 : n ≤ maxI) : endB (numB n) ∧ val (numB n) = n.natAbs ∧ neg1 (numB n) = decide (n < 0) ∧ (numB n).length ≤ 9 := by
  unfold maxI at h1 h2
  have hlen : (numB n).length ≤ 9 := putB_len 8 _ _ (by omega)
  have hend : endB (numB n) := putB_end _ _ (by split <;> omega)
  refine ⟨hend, ?_, ?_, hlen⟩
  · unfold numB
    have hc : (if n < 0 then 64 else 0) + n.natAbs % 64 < 128 := by split <;> omega
    by_cases h : n.natAbs / 64 = 0
    · rw [h, putB_zero, val_first, byteOf_nat _ (by omega)]; split <;> omega
    · rw [putB_more _ _ h]
      simp only [val]
      rw [byteOf_nat _ (by omega), putB_valT _ _ (Nat.mod_lt _ (by omega))]
      split <;> omega
  · unfold numB
    have hc : (if n < 0 then 64 else 0) + n.natAbs % 64 < 128 := by split <;> omega
    by_cases h : n.natAbs / 64 = 0
    · rw [h, putB_zero]
      simp only [neg1]
      rw [byteOf_nat _ (by omega)]
      by_cases hn : n < 0 <;> simp [hn] <;> omega
    · rw [putB_more _ _ h]
      simp only [neg1]
      rw [byteOf_nat _ (by omega)]
      by_cases hn : n < 0 <;> simp [hn] <;> omega

/-- All of them go on. -/
def goB (l : List UInt8) : Prop := ∀ b ∈ l, 128 ≤ b.toNat
/-- What numberOf of the reference answers. -/
def nOf (s : List UInt8) : Int × Int := match takeNum s with
  | none => (0, 0)
  | some (n, r) => (n, (s.length : Int) - r.length)
end Go.Abs
