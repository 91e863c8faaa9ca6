/- Bits of bytes and numbers. -/
import Derived.Test.YtcinhjfonmjneaaTPure
set_option linter.unusedVariables false
set_option linter.unusedSimpArgs false
namespace Go.Abs

theorem ofInt_nat (w a : Nat) : (BitVec.ofInt w (a : Int)).toNat = a % 2 ^ w := by
  rw [BitVec.ofInt_natCast, BitVec.toNat_ofNat]
theorem and_low {a : Nat} (h : a < 9223372036854775808) (k : Nat) (hk : k < 63) : IntKind.i64.wrap (((BitVec.ofInt 64 (a : Int)) &&& (BitVec.ofInt 64 ((2 ^ k - 1 : Nat) : Int))).toNat) = ((a % 2 ^ k : Nat) : Int) := by
  have h2 : (2 : Nat) ^ k ≤ 2 ^ 62 := Nat.pow_le_pow_right (by omega) (by omega)
  have h3 : 0 < (2 : Nat) ^ k := Nat.pow_pos (by omega)
  rw [BitVec.toNat_and, ofInt_nat, ofInt_nat, Nat.mod_eq_of_lt (show a < 2 ^ 64 by omega), Nat.mod_eq_of_lt (show 2 ^ k - 1 < 2 ^ 64 by omega), Nat.and_two_pow_sub_one_eq_mod]
  have h4 : a % 2 ^ k < 2 ^ k := Nat.mod_lt _ h3
  exact w64 (by omega) (by omega)
theorem and63 {a : Nat} (h : a < 9223372036854775808) : IntKind.i64.wrap (((BitVec.ofInt 64 (a : Int)) &&& (BitVec.ofInt 64 63)).toNat) = ((a % 64 : Nat) : Int) := and_low h 6 (by omega)
theorem and127 {a : Nat} (h : a < 9223372036854775808) : IntKind.i64.wrap (((BitVec.ofInt 64 (a : Int)) &&& (BitVec.ofInt 64 127)).toNat) = ((a % 128 : Nat) : Int) := and_low h 7 (by omega)
theorem u8_nat {a : Nat} (h : a < 256) : IntKind.u8.wrap (a : Int) = a := by
  have := byteOf_val (a : Int)
  rw [byteOf_nat a h] at this; exact this.symm
theorem or_fin : ∀ c : Fin 128, IntKind.u8.wrap (((BitVec.ofInt 8 ((c.val : Nat) : Int)) ||| (BitVec.ofInt 8 128)).toNat) = ((c.val + 128 : Nat) : Int) := by decide +kernel
theorem or128 {c : Nat} (h : c < 128) : IntKind.u8.wrap (((BitVec.ofInt 8 (c : Int)) ||| (BitVec.ofInt 8 128)).toNat) = ((c + 128 : Nat) : Int) := or_fin ⟨c, h⟩
theorem or_sign : ∀ x : Fin 64, IntKind.u8.wrap (((BitVec.ofInt 8 64) ||| (BitVec.ofInt 8 ((x.val : Nat) : Int))).toNat) = ((64 + x.val : Nat) : Int) := by decide +kernel
theorem or_none : ∀ x : Fin 64, IntKind.u8.wrap (((BitVec.ofInt 8 0) ||| (BitVec.ofInt 8 ((x.val : Nat) : Int))).toNat) = ((0 + x.val : Nat) : Int) := by decide +kernel
theorem shr_nat (a k : Nat) : (a : Int).fdiv (2 ^ k) = ((a / 2 ^ k : Nat) : Int) := by
  rw [Int.fdiv_eq_ediv_of_nonneg _ (by exact Int.le_of_lt (Int.pow_pos (by omega)))]
  simp
end Go.Abs
