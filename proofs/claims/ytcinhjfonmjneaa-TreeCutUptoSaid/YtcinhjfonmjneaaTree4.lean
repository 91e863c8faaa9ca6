/- What bad, byte and number of package tree's reader answer. -/
import Derived.Test.YtcinhjfonmjneaaTree2
import Derived.Test.YtcinhjfonmjneaaBits
import Derived.Test.YtcinhjfonmjneaaEnd
import Derived.Test.YtcinhjfonmjneaaRPure
set_option linter.unusedVariables false
set_option linter.unusedSimpArgs false
namespace Go.Proofs
open Go.Abs
attribute [local irreducible] AK AOps QCalls ECalls

theorem bad_zero (s : List UInt8) (k x : Int) : ECalls Try.prog Try.X 109 [.box [.c (.str s), .c (.int .i64 k), .c (.int .i64 0)], .v (.c (.int .i64 x))] [] [(0, [.c (.str []), .c (.int .i64 k), .c (.int .i64 x)])] := by
  refine ECalls.ofL Try.func109 rfl (fun args w => Try.call109 args w) (Nat.le_of_ble_eq_true rfl) [(0, .ptr 1000000 0), (1, .c (.int .i64 x))] [(1000000, [.c (.str s), .c (.int .i64 k), .c (.int .i64 0)])] [] [1000000] rfl rfl fun β => ?_; have hf := Try.func109
  repeat' (first
    | refine AK.runP Try.hX Try.mixed 300 rfl ?_
    | refine AK.condTe rfl (by first | with_reducible assumption | (simp only [cond_true, cond_false, Bool.not_true, Bool.not_false, bne_self_eq_false, Int.reduceBNe, Int.reduceBEq]; with_reducible assumption)) ?_
    | refine AK.condFe rfl (by first | with_reducible assumption | (simp only [cond_true, cond_false, Bool.not_true, Bool.not_false, bne_self_eq_false, Int.reduceBNe, Int.reduceBEq]; with_reducible assumption)) ?_
    | (refine AK.condS rfl (fun h => ?_) (fun h => ?_) <;> first | (cases h; done) | rw [h] | skip)
    | refine AK.retQ Try.hX hf rfl rfl ?_
    | refine AK.retE Try.hX hf rfl rfl rfl rfl ?_ (by with_reducible rfl)
    | refine AK.retE Try.hX hf rfl rfl rfl rfl ?_ ?_
    | refine AK.endE Try.hX hf rfl rfl rfl rfl ?_ (by with_reducible rfl)
    | refine AK.endE Try.hX hf rfl rfl rfl rfl ?_ ?_
    | refine AK.region Try.mixed rfl ?_
    | refine AOps.done ?_
    | refine AOps.runS Try.hX kn rfl ?_
    | refine AOps.box kn rfl rfl rfl rfl rfl rfl ?_
    | refine AOps.alloc Try.hX kn rfl rfl rfl rfl rfl rfl rfl ?_
    | refine AOps.store Try.hX kn rfl rfl rfl rfl rfl rfl rfl rfl rfl rfl rfl ?_
    | refine AOps.buildSlice Try.hX kn rfl rfl rfl rfl rfl rfl rfl rfl rfl rfl rfl rfl ?_
    | refine AOps.append Try.hX kn rfl rfl rfl rfl rfl rfl rfl rfl rfl rfl rfl rfl rfl rfl rfl rfl rfl rfl rfl rfl rfl ?_ ?_
    | refine AOps.toStr Try.hX kn rfl rfl rfl rfl rfl rfl rfl rfl rfl rfl rfl (by first | exact rfl | exact byte1 _) rfl ?_
    | refine AOps.buildArr Try.hX kn rfl rfl rfl rfl rfl rfl rfl rfl ?_
    | refine AOps.indexArr Try.hX kn rfl rfl rfl rfl rfl rfl rfl rfl rfl rfl rfl rfl ?_
    | refine AOps.runP1 Try.hX kn rfl rfl ?_
    | (refine AOps.splitT rfl rfl rfl (by first | with_reducible assumption | (simp only [cond_true, cond_false, Bool.not_true, Bool.not_false, bne_self_eq_false, Int.reduceBNe, Int.reduceBEq]; with_reducible assumption)) (fun h => ?_) <;> (fail_if_success (cases h; done)) <;> rw [h])
    | (refine AOps.splitF rfl rfl rfl (by first | with_reducible assumption | (simp only [cond_true, cond_false, Bool.not_true, Bool.not_false, bne_self_eq_false, Int.reduceBNe, Int.reduceBEq]; with_reducible assumption)) (fun h => ?_) <;> (fail_if_success (cases h; done)) <;> rw [h])
    | (refine AOps.split rfl rfl rfl (fun h => ?_) (fun h => ?_) <;> (fail_if_success (cases h; done)) <;> rw [h])
    | refine AOps.drawn (by kernel_rfl) ?_)
  all_goals rfl
theorem bad_set (s : List UInt8) (k e x : Int) (he : e ≠ 0) : ECalls Try.prog Try.X 109 [.box [.c (.str s), .c (.int .i64 k), .c (.int .i64 e)], .v (.c (.int .i64 x))] [] [(0, [.c (.str s), .c (.int .i64 k), .c (.int .i64 e)])] := by
  have e1 : (e == 0) = false := by simpa using he
  refine ECalls.ofL Try.func109 rfl (fun args w => Try.call109 args w) (Nat.le_of_ble_eq_true rfl) [(0, .ptr 1000000 0), (1, .c (.int .i64 x))] [(1000000, [.c (.str s), .c (.int .i64 k), .c (.int .i64 e)])] [] [1000000] rfl rfl fun β => ?_; have hf := Try.func109
  repeat' (first
    | refine AK.runP Try.hX Try.mixed 300 rfl ?_
    | refine AK.condTe rfl (by first | with_reducible assumption | (simp only [cond_true, cond_false, Bool.not_true, Bool.not_false, bne_self_eq_false, Int.reduceBNe, Int.reduceBEq]; with_reducible assumption)) ?_
    | refine AK.condFe rfl (by first | with_reducible assumption | (simp only [cond_true, cond_false, Bool.not_true, Bool.not_false, bne_self_eq_false, Int.reduceBNe, Int.reduceBEq]; with_reducible assumption)) ?_
    | (refine AK.condS rfl (fun h => ?_) (fun h => ?_) <;> first | (cases h; done) | rw [h] | skip)
    | refine AK.retQ Try.hX hf rfl rfl ?_
    | refine AK.retE Try.hX hf rfl rfl rfl rfl ?_ (by with_reducible rfl)
    | refine AK.retE Try.hX hf rfl rfl rfl rfl ?_ ?_
    | refine AK.endE Try.hX hf rfl rfl rfl rfl ?_ (by with_reducible rfl)
    | refine AK.endE Try.hX hf rfl rfl rfl rfl ?_ ?_
    | refine AK.region Try.mixed rfl ?_
    | refine AOps.done ?_
    | refine AOps.runS Try.hX kn rfl ?_
    | refine AOps.box kn rfl rfl rfl rfl rfl rfl ?_
    | refine AOps.alloc Try.hX kn rfl rfl rfl rfl rfl rfl rfl ?_
    | refine AOps.store Try.hX kn rfl rfl rfl rfl rfl rfl rfl rfl rfl rfl rfl ?_
    | refine AOps.buildSlice Try.hX kn rfl rfl rfl rfl rfl rfl rfl rfl rfl rfl rfl rfl ?_
    | refine AOps.append Try.hX kn rfl rfl rfl rfl rfl rfl rfl rfl rfl rfl rfl rfl rfl rfl rfl rfl rfl rfl rfl rfl rfl ?_ ?_
    | refine AOps.toStr Try.hX kn rfl rfl rfl rfl rfl rfl rfl rfl rfl rfl rfl (by first | exact rfl | exact byte1 _) rfl ?_
    | refine AOps.buildArr Try.hX kn rfl rfl rfl rfl rfl rfl rfl rfl ?_
    | refine AOps.indexArr Try.hX kn rfl rfl rfl rfl rfl rfl rfl rfl rfl rfl rfl rfl ?_
    | refine AOps.runP1 Try.hX kn rfl rfl ?_
    | (refine AOps.splitT rfl rfl rfl (by first | with_reducible assumption | (simp only [cond_true, cond_false, Bool.not_true, Bool.not_false, bne_self_eq_false, Int.reduceBNe, Int.reduceBEq]; with_reducible assumption)) (fun h => ?_) <;> (fail_if_success (cases h; done)) <;> rw [h])
    | (refine AOps.splitF rfl rfl rfl (by first | with_reducible assumption | (simp only [cond_true, cond_false, Bool.not_true, Bool.not_false, bne_self_eq_false, Int.reduceBNe, Int.reduceBEq]; with_reducible assumption)) (fun h => ?_) <;> (fail_if_success (cases h; done)) <;> rw [h])
    | (refine AOps.split rfl rfl rfl (fun h => ?_) (fun h => ?_) <;> (fail_if_success (cases h; done)) <;> rw [h])
    | refine AOps.drawn (by kernel_rfl) ?_)
  all_goals rfl

theorem byte_cons (c : UInt8) (s : List UInt8) (k e : Int) : ECalls Try.prog Try.X 132 [.box [.c (.str (c :: s)), .c (.int .i64 k), .c (.int .i64 e)]] [.c (.int .i64 c.toNat)] [(0, [.c (.str s), .c (.int .i64 k), .c (.int .i64 e)])] := by
  have hc := c.toNat_lt
  refine ECalls.ofL Try.func132 rfl (fun args w => Try.call132 args w) (Nat.le_of_ble_eq_true rfl) [(0, .ptr 1000000 0)] [(1000000, [.c (.str (c :: s)), .c (.int .i64 k), .c (.int .i64 e)])] [] [1000000] rfl rfl fun β => ?_; have hf := Try.func132
  repeat' (first
    | refine AK.runP Try.hX Try.mixed 300 rfl ?_
    | refine AK.condTe rfl (by first | with_reducible assumption | (simp only [cond_true, cond_false, Bool.not_true, Bool.not_false, bne_self_eq_false, Int.reduceBNe, Int.reduceBEq]; with_reducible assumption)) ?_
    | refine AK.condFe rfl (by first | with_reducible assumption | (simp only [cond_true, cond_false, Bool.not_true, Bool.not_false, bne_self_eq_false, Int.reduceBNe, Int.reduceBEq]; with_reducible assumption)) ?_
    | (refine AK.condS rfl (fun h => ?_) (fun h => ?_) <;> first | (cases h; done) | rw [h] | skip)
    | refine AK.retQ Try.hX hf rfl rfl ?_
    | refine AK.retE Try.hX hf rfl rfl rfl rfl ?_ (by with_reducible rfl)
    | refine AK.retE Try.hX hf rfl rfl rfl rfl ?_ ?_
    | refine AK.endE Try.hX hf rfl rfl rfl rfl ?_ (by with_reducible rfl)
    | refine AK.endE Try.hX hf rfl rfl rfl rfl ?_ ?_
    | refine AK.region Try.mixed rfl ?_
    | refine AOps.done ?_
    | refine AOps.runS Try.hX kn rfl ?_
    | refine AOps.indexStr Try.hX kn rfl rfl rfl rfl rfl rfl (m := 0) rfl rfl ?_
    | refine AOps.sliceStr Try.hX kn rfl rfl rfl rfl rfl (l := some 1) (h := none) rfl rfl (by simp) (by simp) ?_
    | refine AOps.box kn rfl rfl rfl rfl rfl rfl ?_
    | refine AOps.alloc Try.hX kn rfl rfl rfl rfl rfl rfl rfl ?_
    | refine AOps.store Try.hX kn rfl rfl rfl rfl rfl rfl rfl rfl rfl rfl rfl ?_
    | refine AOps.buildSlice Try.hX kn rfl rfl rfl rfl rfl rfl rfl rfl rfl rfl rfl rfl ?_
    | refine AOps.append Try.hX kn rfl rfl rfl rfl rfl rfl rfl rfl rfl rfl rfl rfl rfl rfl rfl rfl rfl rfl rfl rfl rfl ?_ ?_
    | refine AOps.toStr Try.hX kn rfl rfl rfl rfl rfl rfl rfl rfl rfl rfl rfl (by first | exact rfl | exact byte1 _) rfl ?_
    | refine AOps.buildArr Try.hX kn rfl rfl rfl rfl rfl rfl rfl rfl ?_
    | refine AOps.indexArr Try.hX kn rfl rfl rfl rfl rfl rfl rfl rfl rfl rfl rfl rfl ?_
    | refine AOps.runP1 Try.hX kn rfl rfl ?_
    | (refine AOps.splitT rfl rfl rfl (by first | with_reducible assumption | (simp only [cond_true, cond_false, Bool.not_true, Bool.not_false, bne_self_eq_false, Int.reduceBNe, Int.reduceBEq]; with_reducible assumption)) (fun h => ?_) <;> (fail_if_success (cases h; done)) <;> rw [h])
    | (refine AOps.splitF rfl rfl rfl (by first | with_reducible assumption | (simp only [cond_true, cond_false, Bool.not_true, Bool.not_false, bne_self_eq_false, Int.reduceBNe, Int.reduceBEq]; with_reducible assumption)) (fun h => ?_) <;> (fail_if_success (cases h; done)) <;> rw [h])
    | (refine AOps.split rfl rfl rfl (fun h => ?_) (fun h => ?_) <;> (fail_if_success (cases h; done)) <;> rw [h])
    | refine AOps.drawn (by kernel_rfl) ?_)
  · show (_ : List LV) = _
    rw [w64 (by omega) (by omega)]
theorem byte_nil (k : Int) : ECalls Try.prog Try.X 132 [.box [.c (.str []), .c (.int .i64 k), .c (.int .i64 0)]] [.c (.int .i64 0)] [(0, [.c (.str []), .c (.int .i64 k), .c (.int .i64 1)])] := by
  have hb := bad_zero [] k 1
  refine ECalls.ofL Try.func132 rfl (fun args w => Try.call132 args w) (Nat.le_of_ble_eq_true rfl) [(0, .ptr 1000000 0)] [(1000000, [.c (.str []), .c (.int .i64 k), .c (.int .i64 0)])] [] [1000000] rfl rfl fun β => ?_; have hf := Try.func132
  repeat' (first
    | refine AK.runP Try.hX Try.mixed 300 rfl ?_
    | refine AK.condTe rfl (by first | with_reducible assumption | (simp only [cond_true, cond_false, Bool.not_true, Bool.not_false, bne_self_eq_false, Int.reduceBNe, Int.reduceBEq]; with_reducible assumption)) ?_
    | refine AK.condFe rfl (by first | with_reducible assumption | (simp only [cond_true, cond_false, Bool.not_true, Bool.not_false, bne_self_eq_false, Int.reduceBNe, Int.reduceBEq]; with_reducible assumption)) ?_
    | (refine AK.condS rfl (fun h => ?_) (fun h => ?_) <;> first | (cases h; done) | rw [h] | skip)
    | refine AK.retQ Try.hX hf rfl rfl ?_
    | refine AK.retE Try.hX hf rfl rfl rfl rfl ?_ (by with_reducible rfl)
    | refine AK.retE Try.hX hf rfl rfl rfl rfl ?_ ?_
    | refine AK.endE Try.hX hf rfl rfl rfl rfl ?_ (by with_reducible rfl)
    | refine AK.endE Try.hX hf rfl rfl rfl rfl ?_ ?_
    | refine AK.region Try.mixed rfl ?_
    | refine AOps.done ?_
    | refine AOps.runS Try.hX kn rfl ?_
    | refine AOps.calle kn rfl rfl (hb) rfl (by repeat' (first | exact rfl | exact trivial | refine ⟨_, _, rfl, ?_, ?_⟩ | refine ⟨_, _, _, rfl, rfl, ?_, ?_⟩)) rfl rfl rfl rfl rfl rfl rfl rfl rfl rfl rfl rfl rfl rfl ?_
    | refine AOps.box kn rfl rfl rfl rfl rfl rfl ?_
    | refine AOps.alloc Try.hX kn rfl rfl rfl rfl rfl rfl rfl ?_
    | refine AOps.store Try.hX kn rfl rfl rfl rfl rfl rfl rfl rfl rfl rfl rfl ?_
    | refine AOps.buildSlice Try.hX kn rfl rfl rfl rfl rfl rfl rfl rfl rfl rfl rfl rfl ?_
    | refine AOps.append Try.hX kn rfl rfl rfl rfl rfl rfl rfl rfl rfl rfl rfl rfl rfl rfl rfl rfl rfl rfl rfl rfl rfl ?_ ?_
    | refine AOps.toStr Try.hX kn rfl rfl rfl rfl rfl rfl rfl rfl rfl rfl rfl (by first | exact rfl | exact byte1 _) rfl ?_
    | refine AOps.buildArr Try.hX kn rfl rfl rfl rfl rfl rfl rfl rfl ?_
    | refine AOps.indexArr Try.hX kn rfl rfl rfl rfl rfl rfl rfl rfl rfl rfl rfl rfl ?_
    | refine AOps.runP1 Try.hX kn rfl rfl ?_
    | (refine AOps.splitT rfl rfl rfl (by first | with_reducible assumption | (simp only [cond_true, cond_false, Bool.not_true, Bool.not_false, bne_self_eq_false, Int.reduceBNe, Int.reduceBEq]; with_reducible assumption)) (fun h => ?_) <;> (fail_if_success (cases h; done)) <;> rw [h])
    | (refine AOps.splitF rfl rfl rfl (by first | with_reducible assumption | (simp only [cond_true, cond_false, Bool.not_true, Bool.not_false, bne_self_eq_false, Int.reduceBNe, Int.reduceBEq]; with_reducible assumption)) (fun h => ?_) <;> (fail_if_success (cases h; done)) <;> rw [h])
    | (refine AOps.split rfl rfl rfl (fun h => ?_) (fun h => ?_) <;> (fail_if_success (cases h; done)) <;> rw [h])
    | refine AOps.drawn (by kernel_rfl) ?_)
  all_goals rfl
theorem byte_err (k e : Int) (he : e ≠ 0) : ECalls Try.prog Try.X 132 [.box [.c (.str []), .c (.int .i64 k), .c (.int .i64 e)]] [.c (.int .i64 0)] [(0, [.c (.str []), .c (.int .i64 k), .c (.int .i64 e)])] := by
  have hb := bad_set [] k e 1 he
  refine ECalls.ofL Try.func132 rfl (fun args w => Try.call132 args w) (Nat.le_of_ble_eq_true rfl) [(0, .ptr 1000000 0)] [(1000000, [.c (.str []), .c (.int .i64 k), .c (.int .i64 e)])] [] [1000000] rfl rfl fun β => ?_; have hf := Try.func132
  repeat' (first
    | refine AK.runP Try.hX Try.mixed 300 rfl ?_
    | refine AK.condTe rfl (by first | with_reducible assumption | (simp only [cond_true, cond_false, Bool.not_true, Bool.not_false, bne_self_eq_false, Int.reduceBNe, Int.reduceBEq]; with_reducible assumption)) ?_
    | refine AK.condFe rfl (by first | with_reducible assumption | (simp only [cond_true, cond_false, Bool.not_true, Bool.not_false, bne_self_eq_false, Int.reduceBNe, Int.reduceBEq]; with_reducible assumption)) ?_
    | (refine AK.condS rfl (fun h => ?_) (fun h => ?_) <;> first | (cases h; done) | rw [h] | skip)
    | refine AK.retQ Try.hX hf rfl rfl ?_
    | refine AK.retE Try.hX hf rfl rfl rfl rfl ?_ (by with_reducible rfl)
    | refine AK.retE Try.hX hf rfl rfl rfl rfl ?_ ?_
    | refine AK.endE Try.hX hf rfl rfl rfl rfl ?_ (by with_reducible rfl)
    | refine AK.endE Try.hX hf rfl rfl rfl rfl ?_ ?_
    | refine AK.region Try.mixed rfl ?_
    | refine AOps.done ?_
    | refine AOps.runS Try.hX kn rfl ?_
    | refine AOps.calle kn rfl rfl (hb) rfl (by repeat' (first | exact rfl | exact trivial | refine ⟨_, _, rfl, ?_, ?_⟩ | refine ⟨_, _, _, rfl, rfl, ?_, ?_⟩)) rfl rfl rfl rfl rfl rfl rfl rfl rfl rfl rfl rfl rfl rfl ?_
    | refine AOps.box kn rfl rfl rfl rfl rfl rfl ?_
    | refine AOps.alloc Try.hX kn rfl rfl rfl rfl rfl rfl rfl ?_
    | refine AOps.store Try.hX kn rfl rfl rfl rfl rfl rfl rfl rfl rfl rfl rfl ?_
    | refine AOps.buildSlice Try.hX kn rfl rfl rfl rfl rfl rfl rfl rfl rfl rfl rfl rfl ?_
    | refine AOps.append Try.hX kn rfl rfl rfl rfl rfl rfl rfl rfl rfl rfl rfl rfl rfl rfl rfl rfl rfl rfl rfl rfl rfl ?_ ?_
    | refine AOps.toStr Try.hX kn rfl rfl rfl rfl rfl rfl rfl rfl rfl rfl rfl (by first | exact rfl | exact byte1 _) rfl ?_
    | refine AOps.buildArr Try.hX kn rfl rfl rfl rfl rfl rfl rfl rfl ?_
    | refine AOps.indexArr Try.hX kn rfl rfl rfl rfl rfl rfl rfl rfl rfl rfl rfl rfl ?_
    | refine AOps.runP1 Try.hX kn rfl rfl ?_
    | (refine AOps.splitT rfl rfl rfl (by first | with_reducible assumption | (simp only [cond_true, cond_false, Bool.not_true, Bool.not_false, bne_self_eq_false, Int.reduceBNe, Int.reduceBEq]; with_reducible assumption)) (fun h => ?_) <;> (fail_if_success (cases h; done)) <;> rw [h])
    | (refine AOps.splitF rfl rfl rfl (by first | with_reducible assumption | (simp only [cond_true, cond_false, Bool.not_true, Bool.not_false, bne_self_eq_false, Int.reduceBNe, Int.reduceBEq]; with_reducible assumption)) (fun h => ?_) <;> (fail_if_success (cases h; done)) <;> rw [h])
    | (refine AOps.split rfl rfl rfl (fun h => ?_) (fun h => ?_) <;> (fail_if_success (cases h; done)) <;> rw [h])
    | refine AOps.drawn (by kernel_rfl) ?_)
  all_goals rfl

theorem num_step {n c sh : Nat} (hn : n < 2 ^ sh) (hc : c < 256) (hs : sh ≤ 55) : IntKind.i64.wrap (((BitVec.ofInt 64 (n : Int)) ||| (BitVec.ofInt 64 (IntKind.i64.wrap (IntKind.i64.wrap (((BitVec.ofInt 64 (c : Int)) &&& (BitVec.ofInt 64 127)).toNat) * 2 ^ (min sh 64))))).toNat) = ((n + c % 128 * 2 ^ sh : Nat) : Int) := by
  rw [and127 (by omega)]
  exact or_shift hn (by omega) hs
theorem takeB_nil (n sh : Nat) : takeB [] n sh = none := rfl
theorem takeB_bad {b : UInt8} {s : List UInt8} {n sh : Nat} (h : b.toNat = 0 ∨ sh > 55) : takeB (b :: s) n sh = none := by simp only [takeB, if_pos h]
theorem takeB_good {b : UInt8} {s : List UInt8} {n sh : Nat} (h : ¬ (b.toNat = 0 ∨ sh > 55)) : takeB (b :: s) n sh = if b.toNat ≥ 128 then takeB s (n + b.toNat % 128 * 2 ^ sh) (sh + 7) else some (n + b.toNat % 128 * 2 ^ sh, s) := by simp only [takeB, if_neg h]
theorem first_none {b : UInt8} {s : List UInt8} (h : takeFirst b s = none) : numVal (b :: s) = 0 ∧ numRest (b :: s) = [] ∧ numErr (b :: s) = 1 := by
  have h2 : takeNum (b :: s) = none := by simp only [takeNum, h]
  exact ⟨by simp only [numVal, h], (num_none h2).1, (num_none h2).2⟩
theorem first_bad {b : UInt8} {s : List UInt8} {n : Nat} {r : List UInt8} (h : takeFirst b s = some (n, r)) (hb : (b.toNat / 64 % 2 = 1 ∧ n = 0) ∨ n > 1152921504606846976) : numVal (b :: s) = (if b.toNat / 64 % 2 = 1 then -(n : Int) else n) ∧ numRest (b :: s) = [] ∧ numErr (b :: s) = 1 := by
  have h2 : takeNum (b :: s) = none := by simp only [takeNum, h, if_pos hb]
  exact ⟨by simp only [numVal, h], (num_none h2).1, (num_none h2).2⟩
theorem first_good {b : UInt8} {s : List UInt8} {n : Nat} {r : List UInt8} (h : takeFirst b s = some (n, r)) (hb : ¬ ((b.toNat / 64 % 2 = 1 ∧ n = 0) ∨ n > 1152921504606846976)) : numVal (b :: s) = (if b.toNat / 64 % 2 = 1 then -(n : Int) else n) ∧ numRest (b :: s) = r ∧ numErr (b :: s) = 0 := by
  have h2 : takeNum (b :: s) = some (if b.toNat / 64 % 2 = 1 then -(n : Int) else n, r) := by simp only [takeNum, h, if_neg hb]
  exact num_some h2
theorem bool_of (p : Prop) [Decidable p] : decide p = true ∧ p ∨ decide p = false ∧ ¬ p := by
  by_cases h : p
  · exact .inl ⟨decide_eq_true h, h⟩
  · exact .inr ⟨decide_eq_false h, h⟩

set_option maxHeartbeats 0 in
theorem number_calls (s : List UInt8) (k : Int) : ECalls Try.prog Try.X 133 [.box [.c (.str s), .c (.int .i64 k), .c (.int .i64 0)]] [.c (.int .i64 (numVal s))] [(0, [.c (.str (numRest s)), .c (.int .i64 k), .c (.int .i64 (numErr s))])] := by
  cases s with
  | nil =>
    have h1 := byte_nil k
    refine ECalls.ofL Try.func133 rfl (fun args w => Try.call133 args w) (Nat.le_of_ble_eq_true rfl) [(0, .ptr 1000000 0)] [(1000000, [.c (.str []), .c (.int .i64 k), .c (.int .i64 0)])] [] [1000000] rfl rfl fun β => ?_; have hf := Try.func133
    repeat' (first
      | refine AK.runP Try.hX Try.mixed 300 rfl ?_
      | refine AK.condTe rfl (by first | with_reducible assumption | (simp only [cond_true, cond_false, Bool.not_true, Bool.not_false, bne_self_eq_false, Int.reduceBNe, Int.reduceBEq]; with_reducible assumption)) ?_
      | refine AK.condFe rfl (by first | with_reducible assumption | (simp only [cond_true, cond_false, Bool.not_true, Bool.not_false, bne_self_eq_false, Int.reduceBNe, Int.reduceBEq]; with_reducible assumption)) ?_
      | (refine AK.condS rfl (fun h => ?_) (fun h => ?_) <;> first | (cases h; done) | rw [h] | skip)
      | refine AK.retQ Try.hX hf rfl rfl ?_
      | refine AK.retE Try.hX hf rfl rfl rfl rfl ?_ (by with_reducible rfl)
      | refine AK.retE Try.hX hf rfl rfl rfl rfl ?_ ?_
      | refine AK.endE Try.hX hf rfl rfl rfl rfl ?_ (by with_reducible rfl)
      | refine AK.endE Try.hX hf rfl rfl rfl rfl ?_ ?_
      | refine AK.region Try.mixed rfl ?_
      | refine AOps.done ?_
      | refine AOps.runS Try.hX kn rfl ?_
      | refine AOps.calle kn rfl rfl (h1) rfl (by repeat' (first | exact rfl | exact trivial | refine ⟨_, _, rfl, ?_, ?_⟩ | refine ⟨_, _, _, rfl, rfl, ?_, ?_⟩)) rfl rfl rfl rfl rfl rfl rfl rfl rfl rfl rfl rfl rfl rfl ?_
      | refine AOps.box kn rfl rfl rfl rfl rfl rfl ?_
      | refine AOps.alloc Try.hX kn rfl rfl rfl rfl rfl rfl rfl ?_
      | refine AOps.store Try.hX kn rfl rfl rfl rfl rfl rfl rfl rfl rfl rfl rfl ?_
      | refine AOps.buildSlice Try.hX kn rfl rfl rfl rfl rfl rfl rfl rfl rfl rfl rfl rfl ?_
      | refine AOps.append Try.hX kn rfl rfl rfl rfl rfl rfl rfl rfl rfl rfl rfl rfl rfl rfl rfl rfl rfl rfl rfl rfl rfl ?_ ?_
      | refine AOps.toStr Try.hX kn rfl rfl rfl rfl rfl rfl rfl rfl rfl rfl rfl (by first | exact rfl | exact byte1 _) rfl ?_
      | refine AOps.buildArr Try.hX kn rfl rfl rfl rfl rfl rfl rfl rfl ?_
      | refine AOps.indexArr Try.hX kn rfl rfl rfl rfl rfl rfl rfl rfl rfl rfl rfl rfl ?_
      | refine AOps.runP1 Try.hX kn rfl rfl ?_
      | (refine AOps.splitT rfl rfl rfl (by first | with_reducible assumption | (simp only [cond_true, cond_false, Bool.not_true, Bool.not_false, bne_self_eq_false, Int.reduceBNe, Int.reduceBEq]; with_reducible assumption)) (fun h => ?_) <;> (fail_if_success (cases h; done)) <;> rw [h])
      | (refine AOps.splitF rfl rfl rfl (by first | with_reducible assumption | (simp only [cond_true, cond_false, Bool.not_true, Bool.not_false, bne_self_eq_false, Int.reduceBNe, Int.reduceBEq]; with_reducible assumption)) (fun h => ?_) <;> (fail_if_success (cases h; done)) <;> rw [h])
      | (refine AOps.split rfl rfl rfl (fun h => ?_) (fun h => ?_) <;> (fail_if_success (cases h; done)) <;> rw [h])
      | refine AOps.drawn (by kernel_rfl) ?_)
    refine AK.loopE (α := Unit) (fun _ => True) (fun _ => 0)
      (fun _ => [(3, .c (.int .i64 0)), (4, .c (.bool (decide ((0 : Nat) / 64 % 2 = 1)))), (5, .c (.int .i64 ((0 % 64 : Nat) : Int))), (0, .ptr 1000000 0)])
      (fun _ => [(1000000, [.c (.str []), .c (.int .i64 k), .c (.int .i64 1)])]) (fun _ => []) [1000000] ()
      trivial ⟨.inl rfl, .inl (congrArg (fun z => some (AV.c (CV.bool z))) (and64 (c := 0) (by omega))), .inl (congrArg (fun z => some (AV.c (CV.int .i64 z))) (and63 (a := 0) (by omega))), .inl rfl, trivial⟩ ⟨rfl, trivial⟩ trivial rfl rfl rfl ?_
    rintro _ _ ih
    clear ih
    repeat' (first
      | refine AK.runP Try.hX Try.mixed 300 rfl ?_
      | refine AK.condTe rfl (by first | with_reducible assumption | (simp only [cond_true, cond_false, Bool.not_true, Bool.not_false, bne_self_eq_false, Int.reduceBNe, Int.reduceBEq]; with_reducible assumption)) ?_
      | refine AK.condFe rfl (by first | with_reducible assumption | (simp only [cond_true, cond_false, Bool.not_true, Bool.not_false, bne_self_eq_false, Int.reduceBNe, Int.reduceBEq]; with_reducible assumption)) ?_
      | (refine AK.condS rfl (fun h => ?_) (fun h => ?_) <;> first | (cases h; done) | rw [h] | skip)
      | refine AK.retQ Try.hX hf rfl rfl ?_
      | refine AK.retE Try.hX hf rfl rfl rfl rfl ?_ (by with_reducible rfl)
      | refine AK.retE Try.hX hf rfl rfl rfl rfl ?_ ?_
      | refine AK.endE Try.hX hf rfl rfl rfl rfl ?_ (by with_reducible rfl)
      | refine AK.endE Try.hX hf rfl rfl rfl rfl ?_ ?_
      | refine AK.region Try.mixed rfl ?_
      | refine AOps.done ?_
      | refine AOps.runS Try.hX kn rfl ?_
      | refine AOps.box kn rfl rfl rfl rfl rfl rfl ?_
      | refine AOps.alloc Try.hX kn rfl rfl rfl rfl rfl rfl rfl ?_
      | refine AOps.store Try.hX kn rfl rfl rfl rfl rfl rfl rfl rfl rfl rfl rfl ?_
      | refine AOps.buildSlice Try.hX kn rfl rfl rfl rfl rfl rfl rfl rfl rfl rfl rfl rfl ?_
      | refine AOps.append Try.hX kn rfl rfl rfl rfl rfl rfl rfl rfl rfl rfl rfl rfl rfl rfl rfl rfl rfl rfl rfl rfl rfl ?_ ?_
      | refine AOps.toStr Try.hX kn rfl rfl rfl rfl rfl rfl rfl rfl rfl rfl rfl (by first | exact rfl | exact byte1 _) rfl ?_
      | refine AOps.buildArr Try.hX kn rfl rfl rfl rfl rfl rfl rfl rfl ?_
      | refine AOps.indexArr Try.hX kn rfl rfl rfl rfl rfl rfl rfl rfl rfl rfl rfl rfl ?_
      | refine AOps.runP1 Try.hX kn rfl rfl ?_
      | (refine AOps.splitT rfl rfl rfl (by first | with_reducible assumption | (simp only [cond_true, cond_false, Bool.not_true, Bool.not_false, bne_self_eq_false, Int.reduceBNe, Int.reduceBEq]; with_reducible assumption)) (fun h => ?_) <;> (fail_if_success (cases h; done)) <;> rw [h])
      | (refine AOps.splitF rfl rfl rfl (by first | with_reducible assumption | (simp only [cond_true, cond_false, Bool.not_true, Bool.not_false, bne_self_eq_false, Int.reduceBNe, Int.reduceBEq]; with_reducible assumption)) (fun h => ?_) <;> (fail_if_success (cases h; done)) <;> rw [h])
      | (refine AOps.split rfl rfl rfl (fun h => ?_) (fun h => ?_) <;> (fail_if_success (cases h; done)) <;> rw [h])
      | refine AOps.drawn (by kernel_rfl) ?_)
    all_goals rfl
  | cons b s =>
    have h1 := byte_cons b s k 0
    have hb := b.toNat_lt
    refine ECalls.ofL Try.func133 rfl (fun args w => Try.call133 args w) (Nat.le_of_ble_eq_true rfl) [(0, .ptr 1000000 0)] [(1000000, [.c (.str (b :: s)), .c (.int .i64 k), .c (.int .i64 0)])] [] [1000000] rfl rfl fun β => ?_; have hf := Try.func133
    repeat' (first
      | refine AK.runP Try.hX Try.mixed 300 rfl ?_
      | refine AK.condTe rfl (by first | with_reducible assumption | (simp only [cond_true, cond_false, Bool.not_true, Bool.not_false, bne_self_eq_false, Int.reduceBNe, Int.reduceBEq]; with_reducible assumption)) ?_
      | refine AK.condFe rfl (by first | with_reducible assumption | (simp only [cond_true, cond_false, Bool.not_true, Bool.not_false, bne_self_eq_false, Int.reduceBNe, Int.reduceBEq]; with_reducible assumption)) ?_
      | (refine AK.condS rfl (fun h => ?_) (fun h => ?_) <;> first | (cases h; done) | rw [h] | skip)
      | refine AK.retQ Try.hX hf rfl rfl ?_
      | refine AK.retE Try.hX hf rfl rfl rfl rfl ?_ (by with_reducible rfl)
      | refine AK.retE Try.hX hf rfl rfl rfl rfl ?_ ?_
      | refine AK.endE Try.hX hf rfl rfl rfl rfl ?_ (by with_reducible rfl)
      | refine AK.endE Try.hX hf rfl rfl rfl rfl ?_ ?_
      | refine AK.region Try.mixed rfl ?_
      | refine AOps.done ?_
      | refine AOps.runS Try.hX kn rfl ?_
      | refine AOps.calle kn rfl rfl (h1) rfl (by repeat' (first | exact rfl | exact trivial | refine ⟨_, _, rfl, ?_, ?_⟩ | refine ⟨_, _, _, rfl, rfl, ?_, ?_⟩)) rfl rfl rfl rfl rfl rfl rfl rfl rfl rfl rfl rfl rfl rfl ?_
      | refine AOps.box kn rfl rfl rfl rfl rfl rfl ?_
      | refine AOps.alloc Try.hX kn rfl rfl rfl rfl rfl rfl rfl ?_
      | refine AOps.store Try.hX kn rfl rfl rfl rfl rfl rfl rfl rfl rfl rfl rfl ?_
      | refine AOps.buildSlice Try.hX kn rfl rfl rfl rfl rfl rfl rfl rfl rfl rfl rfl rfl ?_
      | refine AOps.append Try.hX kn rfl rfl rfl rfl rfl rfl rfl rfl rfl rfl rfl rfl rfl rfl rfl rfl rfl rfl rfl rfl rfl ?_ ?_
      | refine AOps.toStr Try.hX kn rfl rfl rfl rfl rfl rfl rfl rfl rfl rfl rfl (by first | exact rfl | exact byte1 _) rfl ?_
      | refine AOps.buildArr Try.hX kn rfl rfl rfl rfl rfl rfl rfl rfl ?_
      | refine AOps.indexArr Try.hX kn rfl rfl rfl rfl rfl rfl rfl rfl rfl rfl rfl rfl ?_
      | refine AOps.runP1 Try.hX kn rfl rfl ?_
      | (refine AOps.splitT rfl rfl rfl (by first | with_reducible assumption | (simp only [cond_true, cond_false, Bool.not_true, Bool.not_false, bne_self_eq_false, Int.reduceBNe, Int.reduceBEq]; with_reducible assumption)) (fun h => ?_) <;> (fail_if_success (cases h; done)) <;> rw [h])
      | (refine AOps.splitF rfl rfl rfl (by first | with_reducible assumption | (simp only [cond_true, cond_false, Bool.not_true, Bool.not_false, bne_self_eq_false, Int.reduceBNe, Int.reduceBEq]; with_reducible assumption)) (fun h => ?_) <;> (fail_if_success (cases h; done)) <;> rw [h])
      | (refine AOps.split rfl rfl rfl (fun h => ?_) (fun h => ?_) <;> (fail_if_success (cases h; done)) <;> rw [h])
      | refine AOps.drawn (by kernel_rfl) ?_)
    refine AK.loopE (α := Nat × Nat × Nat × List UInt8) (fun z => z.1 < 256 ∧ z.2.1 < 2 ^ z.2.2.1 ∧ z.2.2.1 % 7 = 6 ∧ z.2.2.1 ≤ 62 ∧ takeFirst b s = if z.1 ≥ 128 then takeB z.2.2.2 z.2.1 z.2.2.1 else some (z.2.1, z.2.2.2)) (fun z => z.2.2.2.length)
      (fun z => [(3, .c (.int .i64 z.1)), (4, .c (.bool (decide (b.toNat / 64 % 2 = 1)))), (5, .c (.int .i64 z.2.1)), (6, .c (.int .u64 z.2.2.1)), (0, .ptr 1000000 0)])
      (fun z => [(1000000, [.c (.str z.2.2.2), .c (.int .i64 k), .c (.int .i64 0)])]) (fun _ => []) [1000000] (b.toNat, b.toNat % 64, 6, s)
      ⟨hb, by show b.toNat % 64 < 2 ^ 6; omega, rfl, by show 6 ≤ 62; omega, rfl⟩ ⟨.inl rfl, .inl (congrArg (fun z => some (AV.c (CV.bool z))) (and64 hb)), .inl (congrArg (fun z => some (AV.c (CV.int .i64 z))) (and63 (by omega))), .inl rfl, .inl rfl, trivial⟩ ⟨rfl, trivial⟩ trivial rfl rfl rfl ?_
    rintro ⟨c, n, sh, r⟩ ⟨hc, hn, h7, hsh, hinv⟩ ih
    simp only at hc hn h7 hsh hinv
    by_cases hcc : c ≥ 128
    · have c1 : decide ((c : Int) ≥ 128) = true := decide_eq_true (by omega)
      rw [if_pos hcc] at hinv
      cases r with
      | nil =>
        rw [takeB_nil] at hinv
        have h2 := byte_nil k
        have h3 := bad_set [] k 1 1 (by omega)
        obtain ⟨f1, f2, f3⟩ := first_none hinv
        rw [f1, f2, f3]
        clear ih
        repeat' (first
          | refine AK.runP Try.hX Try.mixed 300 rfl ?_
          | refine AK.condTe rfl (by first | with_reducible assumption | (simp only [cond_true, cond_false, Bool.not_true, Bool.not_false, bne_self_eq_false, Int.reduceBNe, Int.reduceBEq]; with_reducible assumption)) ?_
          | refine AK.condFe rfl (by first | with_reducible assumption | (simp only [cond_true, cond_false, Bool.not_true, Bool.not_false, bne_self_eq_false, Int.reduceBNe, Int.reduceBEq]; with_reducible assumption)) ?_
          | (refine AK.condS rfl (fun h => ?_) (fun h => ?_) <;> first | (cases h; done) | rw [h] | skip)
          | refine AK.retQ Try.hX hf rfl rfl ?_
          | refine AK.retE Try.hX hf rfl rfl rfl rfl ?_ (by with_reducible rfl)
          | refine AK.retE Try.hX hf rfl rfl rfl rfl ?_ ?_
          | refine AK.endE Try.hX hf rfl rfl rfl rfl ?_ (by with_reducible rfl)
          | refine AK.endE Try.hX hf rfl rfl rfl rfl ?_ ?_
          | refine AK.region Try.mixed rfl ?_
          | refine AOps.done ?_
          | refine AOps.runS Try.hX kn rfl ?_
          | refine AOps.calle kn rfl rfl (h2) rfl (by repeat' (first | exact rfl | exact trivial | refine ⟨_, _, rfl, ?_, ?_⟩ | refine ⟨_, _, _, rfl, rfl, ?_, ?_⟩)) rfl rfl rfl rfl rfl rfl rfl rfl rfl rfl rfl rfl rfl rfl ?_
          | refine AOps.calle kn rfl rfl (h3) rfl (by repeat' (first | exact rfl | exact trivial | refine ⟨_, _, rfl, ?_, ?_⟩ | refine ⟨_, _, _, rfl, rfl, ?_, ?_⟩)) rfl rfl rfl rfl rfl rfl rfl rfl rfl rfl rfl rfl rfl rfl ?_
          | refine AOps.box kn rfl rfl rfl rfl rfl rfl ?_
          | refine AOps.alloc Try.hX kn rfl rfl rfl rfl rfl rfl rfl ?_
          | refine AOps.store Try.hX kn rfl rfl rfl rfl rfl rfl rfl rfl rfl rfl rfl ?_
          | refine AOps.buildSlice Try.hX kn rfl rfl rfl rfl rfl rfl rfl rfl rfl rfl rfl rfl ?_
          | refine AOps.append Try.hX kn rfl rfl rfl rfl rfl rfl rfl rfl rfl rfl rfl rfl rfl rfl rfl rfl rfl rfl rfl rfl rfl ?_ ?_
          | refine AOps.toStr Try.hX kn rfl rfl rfl rfl rfl rfl rfl rfl rfl rfl rfl (by first | exact rfl | exact byte1 _) rfl ?_
          | refine AOps.buildArr Try.hX kn rfl rfl rfl rfl rfl rfl rfl rfl ?_
          | refine AOps.indexArr Try.hX kn rfl rfl rfl rfl rfl rfl rfl rfl rfl rfl rfl rfl ?_
          | refine AOps.runP1 Try.hX kn rfl rfl ?_
          | (refine AOps.splitT rfl rfl rfl (by first | with_reducible assumption | (simp only [cond_true, cond_false, Bool.not_true, Bool.not_false, bne_self_eq_false, Int.reduceBNe, Int.reduceBEq]; with_reducible assumption)) (fun h => ?_) <;> (fail_if_success (cases h; done)) <;> rw [h])
          | (refine AOps.splitF rfl rfl rfl (by first | with_reducible assumption | (simp only [cond_true, cond_false, Bool.not_true, Bool.not_false, bne_self_eq_false, Int.reduceBNe, Int.reduceBEq]; with_reducible assumption)) (fun h => ?_) <;> (fail_if_success (cases h; done)) <;> rw [h])
          | (refine AOps.split rfl rfl rfl (fun h => ?_) (fun h => ?_) <;> (fail_if_success (cases h; done)) <;> rw [h])
          | refine AOps.drawn (by kernel_rfl) ?_)
        all_goals rfl
      | cons b' r =>
        have h2 := byte_cons b' r k 0
        have hb' := b'.toNat_lt
        by_cases hx : b'.toNat = 0
        · rw [takeB_bad (.inl hx)] at hinv
          have h3 := bad_zero r k 1
          obtain ⟨f1, f2, f3⟩ := first_none hinv
          rw [f1, f2, f3]
          have c2 : (((b'.toNat : Nat) : Int) == 0) = true := by simpa using hx
          clear ih
          repeat' (first
            | refine AK.runP Try.hX Try.mixed 300 rfl ?_
            | refine AK.condTe rfl (by first | with_reducible assumption | (simp only [cond_true, cond_false, Bool.not_true, Bool.not_false, bne_self_eq_false, Int.reduceBNe, Int.reduceBEq]; with_reducible assumption)) ?_
            | refine AK.condFe rfl (by first | with_reducible assumption | (simp only [cond_true, cond_false, Bool.not_true, Bool.not_false, bne_self_eq_false, Int.reduceBNe, Int.reduceBEq]; with_reducible assumption)) ?_
            | (refine AK.condS rfl (fun h => ?_) (fun h => ?_) <;> first | (cases h; done) | rw [h] | skip)
            | refine AK.retQ Try.hX hf rfl rfl ?_
            | refine AK.retE Try.hX hf rfl rfl rfl rfl ?_ (by with_reducible rfl)
            | refine AK.retE Try.hX hf rfl rfl rfl rfl ?_ ?_
            | refine AK.endE Try.hX hf rfl rfl rfl rfl ?_ (by with_reducible rfl)
            | refine AK.endE Try.hX hf rfl rfl rfl rfl ?_ ?_
            | refine AK.region Try.mixed rfl ?_
            | refine AOps.done ?_
            | refine AOps.runS Try.hX kn rfl ?_
            | refine AOps.calle kn rfl rfl (h2) rfl (by repeat' (first | exact rfl | exact trivial | refine ⟨_, _, rfl, ?_, ?_⟩ | refine ⟨_, _, _, rfl, rfl, ?_, ?_⟩)) rfl rfl rfl rfl rfl rfl rfl rfl rfl rfl rfl rfl rfl rfl ?_
            | refine AOps.calle kn rfl rfl (h3) rfl (by repeat' (first | exact rfl | exact trivial | refine ⟨_, _, rfl, ?_, ?_⟩ | refine ⟨_, _, _, rfl, rfl, ?_, ?_⟩)) rfl rfl rfl rfl rfl rfl rfl rfl rfl rfl rfl rfl rfl rfl ?_
            | refine AOps.box kn rfl rfl rfl rfl rfl rfl ?_
            | refine AOps.alloc Try.hX kn rfl rfl rfl rfl rfl rfl rfl ?_
            | refine AOps.store Try.hX kn rfl rfl rfl rfl rfl rfl rfl rfl rfl rfl rfl ?_
            | refine AOps.buildSlice Try.hX kn rfl rfl rfl rfl rfl rfl rfl rfl rfl rfl rfl rfl ?_
            | refine AOps.append Try.hX kn rfl rfl rfl rfl rfl rfl rfl rfl rfl rfl rfl rfl rfl rfl rfl rfl rfl rfl rfl rfl rfl ?_ ?_
            | refine AOps.toStr Try.hX kn rfl rfl rfl rfl rfl rfl rfl rfl rfl rfl rfl (by first | exact rfl | exact byte1 _) rfl ?_
            | refine AOps.buildArr Try.hX kn rfl rfl rfl rfl rfl rfl rfl rfl ?_
            | refine AOps.indexArr Try.hX kn rfl rfl rfl rfl rfl rfl rfl rfl rfl rfl rfl rfl ?_
            | refine AOps.runP1 Try.hX kn rfl rfl ?_
            | (refine AOps.splitT rfl rfl rfl (by first | with_reducible assumption | (simp only [cond_true, cond_false, Bool.not_true, Bool.not_false, bne_self_eq_false, Int.reduceBNe, Int.reduceBEq]; with_reducible assumption)) (fun h => ?_) <;> (fail_if_success (cases h; done)) <;> rw [h])
            | (refine AOps.splitF rfl rfl rfl (by first | with_reducible assumption | (simp only [cond_true, cond_false, Bool.not_true, Bool.not_false, bne_self_eq_false, Int.reduceBNe, Int.reduceBEq]; with_reducible assumption)) (fun h => ?_) <;> (fail_if_success (cases h; done)) <;> rw [h])
            | (refine AOps.split rfl rfl rfl (fun h => ?_) (fun h => ?_) <;> (fail_if_success (cases h; done)) <;> rw [h])
            | refine AOps.drawn (by kernel_rfl) ?_)
          all_goals rfl
        · have c2 : (((b'.toNat : Nat) : Int) == 0) = false := by simpa using hx
          by_cases hy : sh > 55
          · rw [takeB_bad (.inr hy)] at hinv
            have h3 := bad_zero r k 1
            obtain ⟨f1, f2, f3⟩ := first_none hinv
            rw [f1, f2, f3]
            have c3 : decide ((sh : Int) > 55) = true := decide_eq_true (by omega)
            clear ih
            repeat' (first
              | refine AK.runP Try.hX Try.mixed 300 rfl ?_
              | refine AK.condTe rfl (by first | with_reducible assumption | (simp only [cond_true, cond_false, Bool.not_true, Bool.not_false, bne_self_eq_false, Int.reduceBNe, Int.reduceBEq]; with_reducible assumption)) ?_
              | refine AK.condFe rfl (by first | with_reducible assumption | (simp only [cond_true, cond_false, Bool.not_true, Bool.not_false, bne_self_eq_false, Int.reduceBNe, Int.reduceBEq]; with_reducible assumption)) ?_
              | (refine AK.condS rfl (fun h => ?_) (fun h => ?_) <;> first | (cases h; done) | rw [h] | skip)
              | refine AK.retQ Try.hX hf rfl rfl ?_
              | refine AK.retE Try.hX hf rfl rfl rfl rfl ?_ (by with_reducible rfl)
              | refine AK.retE Try.hX hf rfl rfl rfl rfl ?_ ?_
              | refine AK.endE Try.hX hf rfl rfl rfl rfl ?_ (by with_reducible rfl)
              | refine AK.endE Try.hX hf rfl rfl rfl rfl ?_ ?_
              | refine AK.region Try.mixed rfl ?_
              | refine AOps.done ?_
              | refine AOps.runS Try.hX kn rfl ?_
              | refine AOps.calle kn rfl rfl (h2) rfl (by repeat' (first | exact rfl | exact trivial | refine ⟨_, _, rfl, ?_, ?_⟩ | refine ⟨_, _, _, rfl, rfl, ?_, ?_⟩)) rfl rfl rfl rfl rfl rfl rfl rfl rfl rfl rfl rfl rfl rfl ?_
              | refine AOps.calle kn rfl rfl (h3) rfl (by repeat' (first | exact rfl | exact trivial | refine ⟨_, _, rfl, ?_, ?_⟩ | refine ⟨_, _, _, rfl, rfl, ?_, ?_⟩)) rfl rfl rfl rfl rfl rfl rfl rfl rfl rfl rfl rfl rfl rfl ?_
              | refine AOps.box kn rfl rfl rfl rfl rfl rfl ?_
              | refine AOps.alloc Try.hX kn rfl rfl rfl rfl rfl rfl rfl ?_
              | refine AOps.store Try.hX kn rfl rfl rfl rfl rfl rfl rfl rfl rfl rfl rfl ?_
              | refine AOps.buildSlice Try.hX kn rfl rfl rfl rfl rfl rfl rfl rfl rfl rfl rfl rfl ?_
              | refine AOps.append Try.hX kn rfl rfl rfl rfl rfl rfl rfl rfl rfl rfl rfl rfl rfl rfl rfl rfl rfl rfl rfl rfl rfl ?_ ?_
              | refine AOps.toStr Try.hX kn rfl rfl rfl rfl rfl rfl rfl rfl rfl rfl rfl (by first | exact rfl | exact byte1 _) rfl ?_
              | refine AOps.buildArr Try.hX kn rfl rfl rfl rfl rfl rfl rfl rfl ?_
              | refine AOps.indexArr Try.hX kn rfl rfl rfl rfl rfl rfl rfl rfl rfl rfl rfl rfl ?_
              | refine AOps.runP1 Try.hX kn rfl rfl ?_
              | (refine AOps.splitT rfl rfl rfl (by first | with_reducible assumption | (simp only [cond_true, cond_false, Bool.not_true, Bool.not_false, bne_self_eq_false, Int.reduceBNe, Int.reduceBEq]; with_reducible assumption)) (fun h => ?_) <;> (fail_if_success (cases h; done)) <;> rw [h])
              | (refine AOps.splitF rfl rfl rfl (by first | with_reducible assumption | (simp only [cond_true, cond_false, Bool.not_true, Bool.not_false, bne_self_eq_false, Int.reduceBNe, Int.reduceBEq]; with_reducible assumption)) (fun h => ?_) <;> (fail_if_success (cases h; done)) <;> rw [h])
              | (refine AOps.split rfl rfl rfl (fun h => ?_) (fun h => ?_) <;> (fail_if_success (cases h; done)) <;> rw [h])
              | refine AOps.drawn (by kernel_rfl) ?_)
            all_goals rfl
          · rw [takeB_good (by omega)] at hinv
            have c3 : decide ((sh : Int) > 55) = false := decide_eq_false (by omega)
            have hs := congrArg (fun z => some (AV.c (CV.int .i64 z))) (num_step hn hb' (by omega))
            have hs2 := congrArg (fun z => some (AV.c (CV.int .u64 z))) (show IntKind.u64.wrap ((sh : Int) + 7) = ((sh + 7 : Nat) : Int) by simp [IntKind.wrap, IntKind.bits, IntKind.signed]; omega)
            repeat' (first
              | refine AK.runP Try.hX Try.mixed 300 rfl ?_
              | refine AK.condTe rfl (by first | with_reducible assumption | (simp only [cond_true, cond_false, Bool.not_true, Bool.not_false, bne_self_eq_false, Int.reduceBNe, Int.reduceBEq]; with_reducible assumption)) ?_
              | refine AK.condFe rfl (by first | with_reducible assumption | (simp only [cond_true, cond_false, Bool.not_true, Bool.not_false, bne_self_eq_false, Int.reduceBNe, Int.reduceBEq]; with_reducible assumption)) ?_
              | (refine AK.condS rfl (fun h => ?_) (fun h => ?_) <;> first | (cases h; done) | rw [h] | skip)
              | refine AK.retQ Try.hX hf rfl rfl ?_
              | refine AK.retE Try.hX hf rfl rfl rfl rfl ?_ (by with_reducible rfl)
              | refine AK.retE Try.hX hf rfl rfl rfl rfl ?_ ?_
              | refine AK.endE Try.hX hf rfl rfl rfl rfl ?_ (by with_reducible rfl)
              | refine AK.endE Try.hX hf rfl rfl rfl rfl ?_ ?_
              | refine AK.region Try.mixed rfl ?_
              | refine AOps.done ?_
              | refine AOps.runS Try.hX kn rfl ?_
              | refine AOps.calle kn rfl rfl (h2) rfl (by repeat' (first | exact rfl | exact trivial | refine ⟨_, _, rfl, ?_, ?_⟩ | refine ⟨_, _, _, rfl, rfl, ?_, ?_⟩)) rfl rfl rfl rfl rfl rfl rfl rfl rfl rfl rfl rfl rfl rfl ?_
              | refine AOps.box kn rfl rfl rfl rfl rfl rfl ?_
              | refine AOps.alloc Try.hX kn rfl rfl rfl rfl rfl rfl rfl ?_
              | refine AOps.store Try.hX kn rfl rfl rfl rfl rfl rfl rfl rfl rfl rfl rfl ?_
              | refine AOps.buildSlice Try.hX kn rfl rfl rfl rfl rfl rfl rfl rfl rfl rfl rfl rfl ?_
              | refine AOps.append Try.hX kn rfl rfl rfl rfl rfl rfl rfl rfl rfl rfl rfl rfl rfl rfl rfl rfl rfl rfl rfl rfl rfl ?_ ?_
              | refine AOps.toStr Try.hX kn rfl rfl rfl rfl rfl rfl rfl rfl rfl rfl rfl (by first | exact rfl | exact byte1 _) rfl ?_
              | refine AOps.buildArr Try.hX kn rfl rfl rfl rfl rfl rfl rfl rfl ?_
              | refine AOps.indexArr Try.hX kn rfl rfl rfl rfl rfl rfl rfl rfl rfl rfl rfl rfl ?_
              | refine AOps.runP1 Try.hX kn rfl rfl ?_
              | (refine AOps.splitT rfl rfl rfl (by first | with_reducible assumption | (simp only [cond_true, cond_false, Bool.not_true, Bool.not_false, bne_self_eq_false, Int.reduceBNe, Int.reduceBEq]; with_reducible assumption)) (fun h => ?_) <;> (fail_if_success (cases h; done)) <;> rw [h])
              | (refine AOps.splitF rfl rfl rfl (by first | with_reducible assumption | (simp only [cond_true, cond_false, Bool.not_true, Bool.not_false, bne_self_eq_false, Int.reduceBNe, Int.reduceBEq]; with_reducible assumption)) (fun h => ?_) <;> (fail_if_success (cases h; done)) <;> rw [h])
              | (refine AOps.split rfl rfl rfl (fun h => ?_) (fun h => ?_) <;> (fail_if_success (cases h; done)) <;> rw [h])
              | refine AOps.drawn (by kernel_rfl) ?_)
            refine AK.again (ih (b'.toNat, n + b'.toNat % 128 * 2 ^ sh, sh + 7, r) ⟨hb', ?_, by show (sh + 7) % 7 = 6; omega, by show sh + 7 ≤ 62; omega, hinv⟩ (by show r.length < (b' :: r).length; simp)) ⟨.inl rfl, .inl rfl, .inl hs, .inl hs2, .inl rfl, trivial⟩ ⟨rfl, trivial⟩ trivial rfl rfl rfl
            show n + b'.toNat % 128 * 2 ^ sh < 2 ^ (sh + 7)
            have h5 : 2 ^ (sh + 7) = 128 * 2 ^ sh := by rw [Nat.pow_add]; omega
            have h6 : b'.toNat % 128 * 2 ^ sh ≤ 127 * 2 ^ sh := Nat.mul_le_mul_right _ (by omega)
            omega
    · have c1 : decide ((c : Int) ≥ 128) = false := decide_eq_false (by omega)
      rw [if_neg hcc] at hinv
      have hnb : n < 9223372036854775808 := by
        have : (2 : Nat) ^ sh ≤ 2 ^ 62 := Nat.pow_le_pow_right (by omega) hsh
        omega
      have e5 : IntKind.i64.wrap (0 - (n : Int)) = -(n : Int) := by rw [w64 (by omega) (by omega)]; omega
      clear ih
      rcases bool_of (b.toNat / 64 % 2 = 1) with ⟨d1, hB⟩ | ⟨d1, hB⟩
      · by_cases hz : n = 0
        · obtain ⟨f1, f2, f3⟩ := first_bad hinv (.inl ⟨hB, hz⟩)
          rw [f1, f2, f3, if_pos hB]
          subst hz
          have h3 := bad_zero r k 1
          repeat' (first
            | refine AK.runP Try.hX Try.mixed 300 rfl ?_
            | refine AK.condTe rfl (by first | with_reducible assumption | (simp only [cond_true, cond_false, Bool.not_true, Bool.not_false, bne_self_eq_false, Int.reduceBNe, Int.reduceBEq]; with_reducible assumption)) ?_
            | refine AK.condFe rfl (by first | with_reducible assumption | (simp only [cond_true, cond_false, Bool.not_true, Bool.not_false, bne_self_eq_false, Int.reduceBNe, Int.reduceBEq]; with_reducible assumption)) ?_
            | (refine AK.condS rfl (fun h => ?_) (fun h => ?_) <;> first | (cases h; done) | rw [h] | skip)
            | refine AK.retQ Try.hX hf rfl rfl ?_
            | refine AK.retE Try.hX hf rfl rfl rfl rfl ?_ (by with_reducible rfl)
            | refine AK.retE Try.hX hf rfl rfl rfl rfl ?_ ?_
            | refine AK.endE Try.hX hf rfl rfl rfl rfl ?_ (by with_reducible rfl)
            | refine AK.endE Try.hX hf rfl rfl rfl rfl ?_ ?_
            | refine AK.region Try.mixed rfl ?_
            | refine AOps.done ?_
            | refine AOps.runS Try.hX kn rfl ?_
            | refine AOps.calle kn rfl rfl (h3) rfl (by repeat' (first | exact rfl | exact trivial | refine ⟨_, _, rfl, ?_, ?_⟩ | refine ⟨_, _, _, rfl, rfl, ?_, ?_⟩)) rfl rfl rfl rfl rfl rfl rfl rfl rfl rfl rfl rfl rfl rfl ?_
            | refine AOps.box kn rfl rfl rfl rfl rfl rfl ?_
            | refine AOps.alloc Try.hX kn rfl rfl rfl rfl rfl rfl rfl ?_
            | refine AOps.store Try.hX kn rfl rfl rfl rfl rfl rfl rfl rfl rfl rfl rfl ?_
            | refine AOps.buildSlice Try.hX kn rfl rfl rfl rfl rfl rfl rfl rfl rfl rfl rfl rfl ?_
            | refine AOps.append Try.hX kn rfl rfl rfl rfl rfl rfl rfl rfl rfl rfl rfl rfl rfl rfl rfl rfl rfl rfl rfl rfl rfl ?_ ?_
            | refine AOps.toStr Try.hX kn rfl rfl rfl rfl rfl rfl rfl rfl rfl rfl rfl (by first | exact rfl | exact byte1 _) rfl ?_
            | refine AOps.buildArr Try.hX kn rfl rfl rfl rfl rfl rfl rfl rfl ?_
            | refine AOps.indexArr Try.hX kn rfl rfl rfl rfl rfl rfl rfl rfl rfl rfl rfl rfl ?_
            | refine AOps.runP1 Try.hX kn rfl rfl ?_
            | (refine AOps.splitT rfl rfl rfl (by first | with_reducible assumption | (simp only [cond_true, cond_false, Bool.not_true, Bool.not_false, bne_self_eq_false, Int.reduceBNe, Int.reduceBEq]; with_reducible assumption)) (fun h => ?_) <;> (fail_if_success (cases h; done)) <;> rw [h])
            | (refine AOps.splitF rfl rfl rfl (by first | with_reducible assumption | (simp only [cond_true, cond_false, Bool.not_true, Bool.not_false, bne_self_eq_false, Int.reduceBNe, Int.reduceBEq]; with_reducible assumption)) (fun h => ?_) <;> (fail_if_success (cases h; done)) <;> rw [h])
            | (refine AOps.split rfl rfl rfl (fun h => ?_) (fun h => ?_) <;> (fail_if_success (cases h; done)) <;> rw [h])
            | refine AOps.drawn (by kernel_rfl) ?_)
          all_goals rfl
        · have c2 : ((n : Int) == 0) = false := by simpa using hz
          by_cases hbig : n > 1152921504606846976
          · obtain ⟨f1, f2, f3⟩ := first_bad hinv (.inr hbig)
            rw [f1, f2, f3, if_pos hB]
            have c3 : decide ((n : Int) > 1152921504606846976) = true := decide_eq_true (by omega)
            have h3 := bad_zero r k 1
            repeat' (first
              | refine AK.runP Try.hX Try.mixed 300 rfl ?_
              | refine AK.condTe rfl (by first | with_reducible assumption | (simp only [cond_true, cond_false, Bool.not_true, Bool.not_false, bne_self_eq_false, Int.reduceBNe, Int.reduceBEq]; with_reducible assumption)) ?_
              | refine AK.condFe rfl (by first | with_reducible assumption | (simp only [cond_true, cond_false, Bool.not_true, Bool.not_false, bne_self_eq_false, Int.reduceBNe, Int.reduceBEq]; with_reducible assumption)) ?_
              | (refine AK.condS rfl (fun h => ?_) (fun h => ?_) <;> first | (cases h; done) | rw [h] | skip)
              | refine AK.retQ Try.hX hf rfl rfl ?_
              | refine AK.retE Try.hX hf rfl rfl rfl rfl ?_ (by with_reducible rfl)
              | refine AK.retE Try.hX hf rfl rfl rfl rfl ?_ ?_
              | refine AK.endE Try.hX hf rfl rfl rfl rfl ?_ (by with_reducible rfl)
              | refine AK.endE Try.hX hf rfl rfl rfl rfl ?_ ?_
              | refine AK.region Try.mixed rfl ?_
              | refine AOps.done ?_
              | refine AOps.runS Try.hX kn rfl ?_
              | refine AOps.calle kn rfl rfl (h3) rfl (by repeat' (first | exact rfl | exact trivial | refine ⟨_, _, rfl, ?_, ?_⟩ | refine ⟨_, _, _, rfl, rfl, ?_, ?_⟩)) rfl rfl rfl rfl rfl rfl rfl rfl rfl rfl rfl rfl rfl rfl ?_
              | refine AOps.box kn rfl rfl rfl rfl rfl rfl ?_
              | refine AOps.alloc Try.hX kn rfl rfl rfl rfl rfl rfl rfl ?_
              | refine AOps.store Try.hX kn rfl rfl rfl rfl rfl rfl rfl rfl rfl rfl rfl ?_
              | refine AOps.buildSlice Try.hX kn rfl rfl rfl rfl rfl rfl rfl rfl rfl rfl rfl rfl ?_
              | refine AOps.append Try.hX kn rfl rfl rfl rfl rfl rfl rfl rfl rfl rfl rfl rfl rfl rfl rfl rfl rfl rfl rfl rfl rfl ?_ ?_
              | refine AOps.toStr Try.hX kn rfl rfl rfl rfl rfl rfl rfl rfl rfl rfl rfl (by first | exact rfl | exact byte1 _) rfl ?_
              | refine AOps.buildArr Try.hX kn rfl rfl rfl rfl rfl rfl rfl rfl ?_
              | refine AOps.indexArr Try.hX kn rfl rfl rfl rfl rfl rfl rfl rfl rfl rfl rfl rfl ?_
              | refine AOps.runP1 Try.hX kn rfl rfl ?_
              | (refine AOps.splitT rfl rfl rfl (by first | with_reducible assumption | (simp only [cond_true, cond_false, Bool.not_true, Bool.not_false, bne_self_eq_false, Int.reduceBNe, Int.reduceBEq]; with_reducible assumption)) (fun h => ?_) <;> (fail_if_success (cases h; done)) <;> rw [h])
              | (refine AOps.splitF rfl rfl rfl (by first | with_reducible assumption | (simp only [cond_true, cond_false, Bool.not_true, Bool.not_false, bne_self_eq_false, Int.reduceBNe, Int.reduceBEq]; with_reducible assumption)) (fun h => ?_) <;> (fail_if_success (cases h; done)) <;> rw [h])
              | (refine AOps.split rfl rfl rfl (fun h => ?_) (fun h => ?_) <;> (fail_if_success (cases h; done)) <;> rw [h])
              | refine AOps.drawn (by kernel_rfl) ?_)
            all_goals first | rfl | (show (_ : List LV) = _; exact congrArg (fun z => [LV.c (CV.int .i64 z)]) e5)
          · obtain ⟨f1, f2, f3⟩ := first_good hinv (by omega)
            rw [f1, f2, f3, if_pos hB]
            have c3 : decide ((n : Int) > 1152921504606846976) = false := decide_eq_false (by omega)
            repeat' (first
              | refine AK.runP Try.hX Try.mixed 300 rfl ?_
              | refine AK.condTe rfl (by first | with_reducible assumption | (simp only [cond_true, cond_false, Bool.not_true, Bool.not_false, bne_self_eq_false, Int.reduceBNe, Int.reduceBEq]; with_reducible assumption)) ?_
              | refine AK.condFe rfl (by first | with_reducible assumption | (simp only [cond_true, cond_false, Bool.not_true, Bool.not_false, bne_self_eq_false, Int.reduceBNe, Int.reduceBEq]; with_reducible assumption)) ?_
              | (refine AK.condS rfl (fun h => ?_) (fun h => ?_) <;> first | (cases h; done) | rw [h] | skip)
              | refine AK.retQ Try.hX hf rfl rfl ?_
              | refine AK.retE Try.hX hf rfl rfl rfl rfl ?_ (by with_reducible rfl)
              | refine AK.retE Try.hX hf rfl rfl rfl rfl ?_ ?_
              | refine AK.endE Try.hX hf rfl rfl rfl rfl ?_ (by with_reducible rfl)
              | refine AK.endE Try.hX hf rfl rfl rfl rfl ?_ ?_
              | refine AK.region Try.mixed rfl ?_
              | refine AOps.done ?_
              | refine AOps.runS Try.hX kn rfl ?_
              | refine AOps.box kn rfl rfl rfl rfl rfl rfl ?_
              | refine AOps.alloc Try.hX kn rfl rfl rfl rfl rfl rfl rfl ?_
              | refine AOps.store Try.hX kn rfl rfl rfl rfl rfl rfl rfl rfl rfl rfl rfl ?_
              | refine AOps.buildSlice Try.hX kn rfl rfl rfl rfl rfl rfl rfl rfl rfl rfl rfl rfl ?_
              | refine AOps.append Try.hX kn rfl rfl rfl rfl rfl rfl rfl rfl rfl rfl rfl rfl rfl rfl rfl rfl rfl rfl rfl rfl rfl ?_ ?_
              | refine AOps.toStr Try.hX kn rfl rfl rfl rfl rfl rfl rfl rfl rfl rfl rfl (by first | exact rfl | exact byte1 _) rfl ?_
              | refine AOps.buildArr Try.hX kn rfl rfl rfl rfl rfl rfl rfl rfl ?_
              | refine AOps.indexArr Try.hX kn rfl rfl rfl rfl rfl rfl rfl rfl rfl rfl rfl rfl ?_
              | refine AOps.runP1 Try.hX kn rfl rfl ?_
              | (refine AOps.splitT rfl rfl rfl (by first | with_reducible assumption | (simp only [cond_true, cond_false, Bool.not_true, Bool.not_false, bne_self_eq_false, Int.reduceBNe, Int.reduceBEq]; with_reducible assumption)) (fun h => ?_) <;> (fail_if_success (cases h; done)) <;> rw [h])
              | (refine AOps.splitF rfl rfl rfl (by first | with_reducible assumption | (simp only [cond_true, cond_false, Bool.not_true, Bool.not_false, bne_self_eq_false, Int.reduceBNe, Int.reduceBEq]; with_reducible assumption)) (fun h => ?_) <;> (fail_if_success (cases h; done)) <;> rw [h])
              | (refine AOps.split rfl rfl rfl (fun h => ?_) (fun h => ?_) <;> (fail_if_success (cases h; done)) <;> rw [h])
              | refine AOps.drawn (by kernel_rfl) ?_)
            all_goals first | rfl | (show (_ : List LV) = _; exact congrArg (fun z => [LV.c (CV.int .i64 z)]) e5)
      · by_cases hbig : n > 1152921504606846976
        · obtain ⟨f1, f2, f3⟩ := first_bad hinv (.inr hbig)
          rw [f1, f2, f3, if_neg hB]
          have c3 : decide ((n : Int) > 1152921504606846976) = true := decide_eq_true (by omega)
          have h3 := bad_zero r k 1
          repeat' (first
            | refine AK.runP Try.hX Try.mixed 300 rfl ?_
            | refine AK.condTe rfl (by first | with_reducible assumption | (simp only [cond_true, cond_false, Bool.not_true, Bool.not_false, bne_self_eq_false, Int.reduceBNe, Int.reduceBEq]; with_reducible assumption)) ?_
            | refine AK.condFe rfl (by first | with_reducible assumption | (simp only [cond_true, cond_false, Bool.not_true, Bool.not_false, bne_self_eq_false, Int.reduceBNe, Int.reduceBEq]; with_reducible assumption)) ?_
            | (refine AK.condS rfl (fun h => ?_) (fun h => ?_) <;> first | (cases h; done) | rw [h] | skip)
            | refine AK.retQ Try.hX hf rfl rfl ?_
            | refine AK.retE Try.hX hf rfl rfl rfl rfl ?_ (by with_reducible rfl)
            | refine AK.retE Try.hX hf rfl rfl rfl rfl ?_ ?_
            | refine AK.endE Try.hX hf rfl rfl rfl rfl ?_ (by with_reducible rfl)
            | refine AK.endE Try.hX hf rfl rfl rfl rfl ?_ ?_
            | refine AK.region Try.mixed rfl ?_
            | refine AOps.done ?_
            | refine AOps.runS Try.hX kn rfl ?_
            | refine AOps.calle kn rfl rfl (h3) rfl (by repeat' (first | exact rfl | exact trivial | refine ⟨_, _, rfl, ?_, ?_⟩ | refine ⟨_, _, _, rfl, rfl, ?_, ?_⟩)) rfl rfl rfl rfl rfl rfl rfl rfl rfl rfl rfl rfl rfl rfl ?_
            | refine AOps.box kn rfl rfl rfl rfl rfl rfl ?_
            | refine AOps.alloc Try.hX kn rfl rfl rfl rfl rfl rfl rfl ?_
            | refine AOps.store Try.hX kn rfl rfl rfl rfl rfl rfl rfl rfl rfl rfl rfl ?_
            | refine AOps.buildSlice Try.hX kn rfl rfl rfl rfl rfl rfl rfl rfl rfl rfl rfl rfl ?_
            | refine AOps.append Try.hX kn rfl rfl rfl rfl rfl rfl rfl rfl rfl rfl rfl rfl rfl rfl rfl rfl rfl rfl rfl rfl rfl ?_ ?_
            | refine AOps.toStr Try.hX kn rfl rfl rfl rfl rfl rfl rfl rfl rfl rfl rfl (by first | exact rfl | exact byte1 _) rfl ?_
            | refine AOps.buildArr Try.hX kn rfl rfl rfl rfl rfl rfl rfl rfl ?_
            | refine AOps.indexArr Try.hX kn rfl rfl rfl rfl rfl rfl rfl rfl rfl rfl rfl rfl ?_
            | refine AOps.runP1 Try.hX kn rfl rfl ?_
            | (refine AOps.splitT rfl rfl rfl (by first | with_reducible assumption | (simp only [cond_true, cond_false, Bool.not_true, Bool.not_false, bne_self_eq_false, Int.reduceBNe, Int.reduceBEq]; with_reducible assumption)) (fun h => ?_) <;> (fail_if_success (cases h; done)) <;> rw [h])
            | (refine AOps.splitF rfl rfl rfl (by first | with_reducible assumption | (simp only [cond_true, cond_false, Bool.not_true, Bool.not_false, bne_self_eq_false, Int.reduceBNe, Int.reduceBEq]; with_reducible assumption)) (fun h => ?_) <;> (fail_if_success (cases h; done)) <;> rw [h])
            | (refine AOps.split rfl rfl rfl (fun h => ?_) (fun h => ?_) <;> (fail_if_success (cases h; done)) <;> rw [h])
            | refine AOps.drawn (by kernel_rfl) ?_)
          all_goals rfl
        · obtain ⟨f1, f2, f3⟩ := first_good hinv (by omega)
          rw [f1, f2, f3, if_neg hB]
          have c3 : decide ((n : Int) > 1152921504606846976) = false := decide_eq_false (by omega)
          repeat' (first
            | refine AK.runP Try.hX Try.mixed 300 rfl ?_
            | refine AK.condTe rfl (by first | with_reducible assumption | (simp only [cond_true, cond_false, Bool.not_true, Bool.not_false, bne_self_eq_false, Int.reduceBNe, Int.reduceBEq]; with_reducible assumption)) ?_
            | refine AK.condFe rfl (by first | with_reducible assumption | (simp only [cond_true, cond_false, Bool.not_true, Bool.not_false, bne_self_eq_false, Int.reduceBNe, Int.reduceBEq]; with_reducible assumption)) ?_
            | (refine AK.condS rfl (fun h => ?_) (fun h => ?_) <;> first | (cases h; done) | rw [h] | skip)
            | refine AK.retQ Try.hX hf rfl rfl ?_
            | refine AK.retE Try.hX hf rfl rfl rfl rfl ?_ (by with_reducible rfl)
            | refine AK.retE Try.hX hf rfl rfl rfl rfl ?_ ?_
            | refine AK.endE Try.hX hf rfl rfl rfl rfl ?_ (by with_reducible rfl)
            | refine AK.endE Try.hX hf rfl rfl rfl rfl ?_ ?_
            | refine AK.region Try.mixed rfl ?_
            | refine AOps.done ?_
            | refine AOps.runS Try.hX kn rfl ?_
            | refine AOps.box kn rfl rfl rfl rfl rfl rfl ?_
            | refine AOps.alloc Try.hX kn rfl rfl rfl rfl rfl rfl rfl ?_
            | refine AOps.store Try.hX kn rfl rfl rfl rfl rfl rfl rfl rfl rfl rfl rfl ?_
            | refine AOps.buildSlice Try.hX kn rfl rfl rfl rfl rfl rfl rfl rfl rfl rfl rfl rfl ?_
            | refine AOps.append Try.hX kn rfl rfl rfl rfl rfl rfl rfl rfl rfl rfl rfl rfl rfl rfl rfl rfl rfl rfl rfl rfl rfl ?_ ?_
            | refine AOps.toStr Try.hX kn rfl rfl rfl rfl rfl rfl rfl rfl rfl rfl rfl (by first | exact rfl | exact byte1 _) rfl ?_
            | refine AOps.buildArr Try.hX kn rfl rfl rfl rfl rfl rfl rfl rfl ?_
            | refine AOps.indexArr Try.hX kn rfl rfl rfl rfl rfl rfl rfl rfl rfl rfl rfl rfl ?_
            | refine AOps.runP1 Try.hX kn rfl rfl ?_
            | (refine AOps.splitT rfl rfl rfl (by first | with_reducible assumption | (simp only [cond_true, cond_false, Bool.not_true, Bool.not_false, bne_self_eq_false, Int.reduceBNe, Int.reduceBEq]; with_reducible assumption)) (fun h => ?_) <;> (fail_if_success (cases h; done)) <;> rw [h])
            | (refine AOps.splitF rfl rfl rfl (by first | with_reducible assumption | (simp only [cond_true, cond_false, Bool.not_true, Bool.not_false, bne_self_eq_false, Int.reduceBNe, Int.reduceBEq]; with_reducible assumption)) (fun h => ?_) <;> (fail_if_success (cases h; done)) <;> rw [h])
            | (refine AOps.split rfl rfl rfl (fun h => ?_) (fun h => ?_) <;> (fail_if_success (cases h; done)) <;> rw [h])
            | refine AOps.drawn (by kernel_rfl) ?_)
          all_goals rfl
end Go.Proofs
