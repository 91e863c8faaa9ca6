/- What Move of package ledger answers. What bare and Sum of package ledger answer. What Good of package ledger answers. What New of package ledger answers, and books of touchstonekeep. What a move does to a good ledger: plain law. The walk of the law LedgerKeeps. The law LedgerKeeps as a contract. What the arguments of the laws read as: closed values of the chain's data. What an argument that is a ledger reads as. The last text of a law whose code names a package variable of which nothing is known but its shape. -/
import Derived.Test.YtjajbnmfcjcaiaaDoorLed0
import Derived.Test.YtjajbnmfcjcaiaaDoorRows
import Derived.Test.YtjajbnmfcjcaiaaDoorKind9
import Derived.Test.YtjajbnmfcjcaiaaDoorCtx
import Derived.WalkKit
import Derived.ProofKit
import Derived.OpenShut
import Derived.Test.YtjajbnmfcjcaiaaDoorHead
import Derived.JoinedCond
-- WK
set_option linter.unusedVariables false
set_option linter.unusedSimpArgs false
namespace Go.Abs
theorem aload_led {l : Led} {i : TI} (h12 : l.accs.length = 12) (h1 : i.isAgg = true) (h2 : i.size = 181) : aload i (ledAV l) = some (.agg (ledAV l)) := by
  unfold aload; rw [h1, h2]; simp only [led_take h12]
theorem led_beq {l : Led} (h12 : l.accs.length = 12) {n : Nat} (h : n = 181) : Nat.beq (ledAV l).length n = true := by rw [ledAV_len h12, h]; rfl
theorem led_write {l : Led} (h12 : l.accs.length = 12) {cells : List AV} (h : cells.length = 181) : writeAt 0 (ledAV l) cells = some (ledAV l) := writeAt_all _ _ (by rw [ledAV_len h12, h])
theorem led_close2 (l : Led) (e : Int) : close (.tup [.agg (ledAV l), .c (.int .i64 e)]) = some (.tup [.agg (ledCV l), .int .i64 e]) := by
  simp only [close, closeL, led_close l]
  rw [show closeL (ledAV l) = some (ledCV l) from close_map _]
end Go.Abs
namespace Go.Proofs
open Go.Abs
attribute [local irreducible] AK AOps QCalls ECalls GCalls ledAV ledCV accsAV Led.setBal

set_option maxHeartbeats 0 in
set_option maxRecDepth 100000 in
theorem Move_ok (l : Led) (h12 : l.accs.length = 12) (i j : Nat) (aF aT aT' : Acc) (haF : l.accs[i]? = some aF) (haT : l.accs[j]? = some aT) (n : Int)
    (haT' : (l.setBal i (IntKind.i64.wrap (aF.bal - n))).accs[j]? = some aT') (h12' : (l.setBal i (IntKind.i64.wrap (aF.bal - n))).accs.length = 12)
    (h12'' : ((l.setBal i (IntKind.i64.wrap (aF.bal - n))).setBal j (IntKind.i64.wrap (aT'.bal + n))).accs.length = 12)
    (isF : aF.is ≠ 0) (isT : aT.is ≠ 0) (h0 : 0 ≤ n) (hM : n ≤ 1152921504606846976) (hb : n ≤ aF.bal) :
    QCalls Tryd.prog Tryd.X 14 [.agg (ledCV l), .int .i64 i, .int .i64 j, .int .i64 n]
      (.tup [.agg (ledCV ((l.setBal i (IntKind.i64.wrap (aF.bal - n))).setBal j (IntKind.i64.wrap (aT'.bal + n)))), .int .i64 0]) := by
  have li : Nat.blt i 12 = true := by rw [Nat.blt_eq]; have := (List.getElem?_eq_some_iff.1 haF).1; omega
  have lj : Nat.blt j 12 = true := by rw [Nat.blt_eq]; have := (List.getElem?_eq_some_iff.1 haT).1; omega
  have li' : i < 12 := by simpa [Nat.blt_eq] using li
  have lj' : j < 12 := by simpa [Nat.blt_eq] using lj
  obtain ⟨r1, d1⟩ := led_is h12 haF
  obtain ⟨r2, d2⟩ := led_is h12 haT
  obtain ⟨r3, d3⟩ := led_bal h12 haF
  obtain ⟨r4, d4⟩ := led_bal h12' haT'
  have w1 := led_put h12 haF (IntKind.i64.wrap (aF.bal - n))
  have w2 := led_put h12' haT' (IntKind.i64.wrap (aT'.bal + n))
  have c1 : decide ((i : Int) < 0) = false := decide_eq_false (by omega)
  have c2 : decide ((i : Int) ≥ 12) = false := decide_eq_false (by omega)
  have c3 : decide ((j : Int) < 0) = false := decide_eq_false (by omega)
  have c4 : decide ((j : Int) ≥ 12) = false := decide_eq_false (by omega)
  have c5 : (aF.is == 0) = false := by simpa using isF
  have c6 : (aT.is == 0) = false := by simpa using isT
  have c7 : decide (n < 0) = false := decide_eq_false (by omega)
  have c8 : decide (n > 1152921504606846976) = false := decide_eq_false (by omega)
  have c9 : decide (aF.bal < n) = false := decide_eq_false (by omega)
  have n1 : (bif decide ((i : Int) < 0) then true else decide ((i : Int) ≥ 12)) = false := by rw [c1, c2]; rfl
  have n2 : (bif bif false then true else decide ((j : Int) < 0) then true else decide ((j : Int) ≥ 12)) = false := by rw [c3, c4]; rfl
  have n3 : (bif decide (n < 0) then true else decide (n > 1152921504606846976)) = false := by rw [c7, c8]; rfl
  refine QCalls.of Tryd.func14 rfl (fun args w => Tryd.call14 args w) (Nat.le_of_ble_eq_true rfl) [(0, .c (.agg (ledCV l))), (1, .c (.int .i64 i)), (2, .c (.int .i64 j)), (3, .c (.int .i64 n))] rfl fun β hβ => ?_; have hf := Tryd.func14
  repeat' (first | refine st ?_ | (refine AK.condS rfl (fun h => ?_) (fun h => ?_) <;> first | (cases h; done) | rw [h] | skip) | refine uW hf rfl rfl ?_ | refine AK.seq ?_ | refine AOps.box kn rfl rfl rfl rfl (led_box _) rfl ?_ | refine AOps.indexP Tryd.hX kn rfl rfl rfl rfl rfl rfl rfl rfl rfl (by assumption) ?_ | refine AOps.loadB Tryd.hX kn rfl rfl rfl rfl rfl rfl rfl (aload_led (by assumption) rfl rfl) ?_ | refine AOps.loadB Tryd.hX kn rfl rfl rfl rfl rfl rfl (by assumption) (by rfl) ?_ | refine AOps.store Tryd.hX kn rfl rfl rfl rfl rfl rfl rfl rfl (led_beq (by assumption) rfl) (led_write (by assumption) rfl) rfl ?_ | refine AOps.store Tryd.hX kn rfl rfl rfl rfl rfl rfl rfl rfl rfl (by assumption) (by rfl) ?_ | refine AK.retW Tryd.hX hf (aresult_cell rfl rfl rfl rfl (aload_led (by assumption) rfl rfl) rfl) (led_close2 _ _) (Wk.refl _) | ((first | refine AOps.splitT rfl rfl rfl asm (fun h => ?_) | refine AOps.splitF rfl rfl rfl asm (fun h => ?_) | refine AOps.split rfl rfl rfl (fun h => ?_) (fun h => ?_)) <;> (fail_if_success (cases h; done)) <;> rw [h]))

set_option maxHeartbeats 0 in
set_option maxRecDepth 100000 in
theorem Move_no (l : Led) (h12 : l.accs.length = 12) (F T n : Int)
    (hno : ∀ (i j : Nat) (aF aT : Acc), F = i → T = j → l.accs[i]? = some aF → l.accs[j]? = some aT → aF.is ≠ 0 → aT.is ≠ 0 → 0 ≤ n → n ≤ 1152921504606846976 → n ≤ aF.bal → False) :
    ∃ e : Int, e ≠ 0 ∧ QCalls Tryd.prog Tryd.X 14 [.agg (ledCV l), .int .i64 F, .int .i64 T, .int .i64 n] (.tup [.agg (ledCV l), .int .i64 e]) := by
  by_cases f1 : F < 0
  · have n1 : (bif decide (F < 0) then true else decide (F ≥ 12)) = true := by rw [decide_eq_true f1]; rfl
    have c1 := decide_eq_true f1
    refine ⟨6, by decide, ?_⟩
    refine QCalls.of Tryd.func14 rfl (fun args w => Tryd.call14 args w) (Nat.le_of_ble_eq_true rfl) [(0, .c (.agg (ledCV l))), (1, .c (.int .i64 F)), (2, .c (.int .i64 T)), (3, .c (.int .i64 n))] rfl fun β hβ => ?_; have hf := Tryd.func14
    repeat' (first | refine st ?_ | (refine AK.condS rfl (fun h => ?_) (fun h => ?_) <;> first | (cases h; done) | rw [h] | skip) | refine uW hf rfl rfl ?_ | refine AK.seq ?_ | refine AOps.box kn rfl rfl rfl rfl (led_box _) rfl ?_ | refine AOps.indexP Tryd.hX kn rfl rfl rfl rfl rfl rfl rfl rfl rfl (by assumption) ?_ | refine AOps.loadB Tryd.hX kn rfl rfl rfl rfl rfl rfl rfl (aload_led (by assumption) rfl rfl) ?_ | refine AOps.loadB Tryd.hX kn rfl rfl rfl rfl rfl rfl (by assumption) (by rfl) ?_ | refine AOps.store Tryd.hX kn rfl rfl rfl rfl rfl rfl rfl rfl (led_beq (by assumption) rfl) (led_write (by assumption) rfl) rfl ?_ | refine AOps.store Tryd.hX kn rfl rfl rfl rfl rfl rfl rfl rfl rfl (by assumption) (by rfl) ?_ | refine AK.retW Tryd.hX hf (aresult_cell rfl rfl rfl rfl (aload_led (by assumption) rfl rfl) rfl) (led_close2 _ _) (Wk.refl _) | ((first | refine AOps.splitT rfl rfl rfl asm (fun h => ?_) | refine AOps.splitF rfl rfl rfl asm (fun h => ?_) | refine AOps.split rfl rfl rfl (fun h => ?_) (fun h => ?_)) <;> (fail_if_success (cases h; done)) <;> rw [h]))
  have c1 := decide_eq_false f1
  by_cases f2 : F ≥ 12
  · have n1 : (bif decide (F < 0) then true else decide (F ≥ 12)) = true := by rw [decide_eq_false f1, decide_eq_true f2]; rfl
    have c2 := decide_eq_true f2
    refine ⟨6, by decide, ?_⟩
    refine QCalls.of Tryd.func14 rfl (fun args w => Tryd.call14 args w) (Nat.le_of_ble_eq_true rfl) [(0, .c (.agg (ledCV l))), (1, .c (.int .i64 F)), (2, .c (.int .i64 T)), (3, .c (.int .i64 n))] rfl fun β hβ => ?_; have hf := Tryd.func14
    repeat' (first | refine st ?_ | (refine AK.condS rfl (fun h => ?_) (fun h => ?_) <;> first | (cases h; done) | rw [h] | skip) | refine uW hf rfl rfl ?_ | refine AK.seq ?_ | refine AOps.box kn rfl rfl rfl rfl (led_box _) rfl ?_ | refine AOps.indexP Tryd.hX kn rfl rfl rfl rfl rfl rfl rfl rfl rfl (by assumption) ?_ | refine AOps.loadB Tryd.hX kn rfl rfl rfl rfl rfl rfl rfl (aload_led (by assumption) rfl rfl) ?_ | refine AOps.loadB Tryd.hX kn rfl rfl rfl rfl rfl rfl (by assumption) (by rfl) ?_ | refine AOps.store Tryd.hX kn rfl rfl rfl rfl rfl rfl rfl rfl (led_beq (by assumption) rfl) (led_write (by assumption) rfl) rfl ?_ | refine AOps.store Tryd.hX kn rfl rfl rfl rfl rfl rfl rfl rfl rfl (by assumption) (by rfl) ?_ | refine AK.retW Tryd.hX hf (aresult_cell rfl rfl rfl rfl (aload_led (by assumption) rfl rfl) rfl) (led_close2 _ _) (Wk.refl _) | ((first | refine AOps.splitT rfl rfl rfl asm (fun h => ?_) | refine AOps.splitF rfl rfl rfl asm (fun h => ?_) | refine AOps.split rfl rfl rfl (fun h => ?_) (fun h => ?_)) <;> (fail_if_success (cases h; done)) <;> rw [h]))
  have c2 := decide_eq_false f2
  have n1 : (bif decide (F < 0) then true else decide (F ≥ 12)) = false := by rw [decide_eq_false f1, decide_eq_false f2]; rfl
  by_cases t1 : T < 0
  · have n2 : (bif bif false then true else decide (T < 0) then true else decide (T ≥ 12)) = true := by rw [decide_eq_true t1]; rfl
    have c3 := decide_eq_true t1
    refine ⟨6, by decide, ?_⟩
    refine QCalls.of Tryd.func14 rfl (fun args w => Tryd.call14 args w) (Nat.le_of_ble_eq_true rfl) [(0, .c (.agg (ledCV l))), (1, .c (.int .i64 F)), (2, .c (.int .i64 T)), (3, .c (.int .i64 n))] rfl fun β hβ => ?_; have hf := Tryd.func14
    repeat' (first | refine st ?_ | (refine AK.condS rfl (fun h => ?_) (fun h => ?_) <;> first | (cases h; done) | rw [h] | skip) | refine uW hf rfl rfl ?_ | refine AK.seq ?_ | refine AOps.box kn rfl rfl rfl rfl (led_box _) rfl ?_ | refine AOps.indexP Tryd.hX kn rfl rfl rfl rfl rfl rfl rfl rfl rfl (by assumption) ?_ | refine AOps.loadB Tryd.hX kn rfl rfl rfl rfl rfl rfl rfl (aload_led (by assumption) rfl rfl) ?_ | refine AOps.loadB Tryd.hX kn rfl rfl rfl rfl rfl rfl (by assumption) (by rfl) ?_ | refine AOps.store Tryd.hX kn rfl rfl rfl rfl rfl rfl rfl rfl (led_beq (by assumption) rfl) (led_write (by assumption) rfl) rfl ?_ | refine AOps.store Tryd.hX kn rfl rfl rfl rfl rfl rfl rfl rfl rfl (by assumption) (by rfl) ?_ | refine AK.retW Tryd.hX hf (aresult_cell rfl rfl rfl rfl (aload_led (by assumption) rfl rfl) rfl) (led_close2 _ _) (Wk.refl _) | ((first | refine AOps.splitT rfl rfl rfl asm (fun h => ?_) | refine AOps.splitF rfl rfl rfl asm (fun h => ?_) | refine AOps.split rfl rfl rfl (fun h => ?_) (fun h => ?_)) <;> (fail_if_success (cases h; done)) <;> rw [h]))
  have c3 := decide_eq_false t1
  by_cases t2 : T ≥ 12
  · have n2 : (bif bif false then true else decide (T < 0) then true else decide (T ≥ 12)) = true := by rw [decide_eq_false t1, decide_eq_true t2]; rfl
    have c4 := decide_eq_true t2
    refine ⟨6, by decide, ?_⟩
    refine QCalls.of Tryd.func14 rfl (fun args w => Tryd.call14 args w) (Nat.le_of_ble_eq_true rfl) [(0, .c (.agg (ledCV l))), (1, .c (.int .i64 F)), (2, .c (.int .i64 T)), (3, .c (.int .i64 n))] rfl fun β hβ => ?_; have hf := Tryd.func14
    repeat' (first | refine st ?_ | (refine AK.condS rfl (fun h => ?_) (fun h => ?_) <;> first | (cases h; done) | rw [h] | skip) | refine uW hf rfl rfl ?_ | refine AK.seq ?_ | refine AOps.box kn rfl rfl rfl rfl (led_box _) rfl ?_ | refine AOps.indexP Tryd.hX kn rfl rfl rfl rfl rfl rfl rfl rfl rfl (by assumption) ?_ | refine AOps.loadB Tryd.hX kn rfl rfl rfl rfl rfl rfl rfl (aload_led (by assumption) rfl rfl) ?_ | refine AOps.loadB Tryd.hX kn rfl rfl rfl rfl rfl rfl (by assumption) (by rfl) ?_ | refine AOps.store Tryd.hX kn rfl rfl rfl rfl rfl rfl rfl rfl (led_beq (by assumption) rfl) (led_write (by assumption) rfl) rfl ?_ | refine AOps.store Tryd.hX kn rfl rfl rfl rfl rfl rfl rfl rfl rfl (by assumption) (by rfl) ?_ | refine AK.retW Tryd.hX hf (aresult_cell rfl rfl rfl rfl (aload_led (by assumption) rfl rfl) rfl) (led_close2 _ _) (Wk.refl _) | ((first | refine AOps.splitT rfl rfl rfl asm (fun h => ?_) | refine AOps.splitF rfl rfl rfl asm (fun h => ?_) | refine AOps.split rfl rfl rfl (fun h => ?_) (fun h => ?_)) <;> (fail_if_success (cases h; done)) <;> rw [h]))
  have c4 := decide_eq_false t2
  have n2 : (bif bif false then true else decide (T < 0) then true else decide (T ≥ 12)) = false := by rw [decide_eq_false t1, decide_eq_false t2]; rfl
  obtain ⟨i, rfl⟩ := Int.eq_ofNat_of_zero_le (show 0 ≤ F by omega)
  obtain ⟨j, rfl⟩ := Int.eq_ofNat_of_zero_le (show 0 ≤ T by omega)
  obtain ⟨aF, haF⟩ : ∃ a, l.accs[i]? = some a := ⟨l.accs[i]'(by omega), by simp⟩
  obtain ⟨aT, haT⟩ : ∃ a, l.accs[j]? = some a := ⟨l.accs[j]'(by omega), by simp⟩
  have li : Nat.blt i 12 = true := by rw [Nat.blt_eq]; omega
  have lj : Nat.blt j 12 = true := by rw [Nat.blt_eq]; omega
  obtain ⟨r1, d1⟩ := led_is h12 haF
  obtain ⟨r2, d2⟩ := led_is h12 haT
  obtain ⟨r3, d3⟩ := led_bal h12 haF
  by_cases i1 : aF.is = 0
  · have c5 : (aF.is == 0) = true := by simpa using i1
    refine ⟨6, by decide, ?_⟩
    refine QCalls.of Tryd.func14 rfl (fun args w => Tryd.call14 args w) (Nat.le_of_ble_eq_true rfl) [(0, .c (.agg (ledCV l))), (1, .c (.int .i64 i)), (2, .c (.int .i64 j)), (3, .c (.int .i64 n))] rfl fun β hβ => ?_; have hf := Tryd.func14
    repeat' (first | refine st ?_ | (refine AK.condS rfl (fun h => ?_) (fun h => ?_) <;> first | (cases h; done) | rw [h] | skip) | refine uW hf rfl rfl ?_ | refine AK.seq ?_ | refine AOps.box kn rfl rfl rfl rfl (led_box _) rfl ?_ | refine AOps.indexP Tryd.hX kn rfl rfl rfl rfl rfl rfl rfl rfl rfl (by assumption) ?_ | refine AOps.loadB Tryd.hX kn rfl rfl rfl rfl rfl rfl rfl (aload_led (by assumption) rfl rfl) ?_ | refine AOps.loadB Tryd.hX kn rfl rfl rfl rfl rfl rfl (by assumption) (by rfl) ?_ | refine AOps.store Tryd.hX kn rfl rfl rfl rfl rfl rfl rfl rfl (led_beq (by assumption) rfl) (led_write (by assumption) rfl) rfl ?_ | refine AOps.store Tryd.hX kn rfl rfl rfl rfl rfl rfl rfl rfl rfl (by assumption) (by rfl) ?_ | refine AK.retW Tryd.hX hf (aresult_cell rfl rfl rfl rfl (aload_led (by assumption) rfl rfl) rfl) (led_close2 _ _) (Wk.refl _) | ((first | refine AOps.splitT rfl rfl rfl asm (fun h => ?_) | refine AOps.splitF rfl rfl rfl asm (fun h => ?_) | refine AOps.split rfl rfl rfl (fun h => ?_) (fun h => ?_)) <;> (fail_if_success (cases h; done)) <;> rw [h]))
  have c5 : (aF.is == 0) = false := by simpa using i1
  by_cases i2 : aT.is = 0
  · have c6 : (aT.is == 0) = true := by simpa using i2
    refine ⟨6, by decide, ?_⟩
    refine QCalls.of Tryd.func14 rfl (fun args w => Tryd.call14 args w) (Nat.le_of_ble_eq_true rfl) [(0, .c (.agg (ledCV l))), (1, .c (.int .i64 i)), (2, .c (.int .i64 j)), (3, .c (.int .i64 n))] rfl fun β hβ => ?_; have hf := Tryd.func14
    repeat' (first | refine st ?_ | (refine AK.condS rfl (fun h => ?_) (fun h => ?_) <;> first | (cases h; done) | rw [h] | skip) | refine uW hf rfl rfl ?_ | refine AK.seq ?_ | refine AOps.box kn rfl rfl rfl rfl (led_box _) rfl ?_ | refine AOps.indexP Tryd.hX kn rfl rfl rfl rfl rfl rfl rfl rfl rfl (by assumption) ?_ | refine AOps.loadB Tryd.hX kn rfl rfl rfl rfl rfl rfl rfl (aload_led (by assumption) rfl rfl) ?_ | refine AOps.loadB Tryd.hX kn rfl rfl rfl rfl rfl rfl (by assumption) (by rfl) ?_ | refine AOps.store Tryd.hX kn rfl rfl rfl rfl rfl rfl rfl rfl (led_beq (by assumption) rfl) (led_write (by assumption) rfl) rfl ?_ | refine AOps.store Tryd.hX kn rfl rfl rfl rfl rfl rfl rfl rfl rfl (by assumption) (by rfl) ?_ | refine AK.retW Tryd.hX hf (aresult_cell rfl rfl rfl rfl (aload_led (by assumption) rfl rfl) rfl) (led_close2 _ _) (Wk.refl _) | ((first | refine AOps.splitT rfl rfl rfl asm (fun h => ?_) | refine AOps.splitF rfl rfl rfl asm (fun h => ?_) | refine AOps.split rfl rfl rfl (fun h => ?_) (fun h => ?_)) <;> (fail_if_success (cases h; done)) <;> rw [h]))
  have c6 : (aT.is == 0) = false := by simpa using i2
  by_cases m1 : n < 0
  · have n3 : (bif decide (n < 0) then true else decide (n > 1152921504606846976)) = true := by rw [decide_eq_true m1]; rfl
    have c7 := decide_eq_true m1
    refine ⟨2, by decide, ?_⟩
    refine QCalls.of Tryd.func14 rfl (fun args w => Tryd.call14 args w) (Nat.le_of_ble_eq_true rfl) [(0, .c (.agg (ledCV l))), (1, .c (.int .i64 i)), (2, .c (.int .i64 j)), (3, .c (.int .i64 n))] rfl fun β hβ => ?_; have hf := Tryd.func14
    repeat' (first | refine st ?_ | (refine AK.condS rfl (fun h => ?_) (fun h => ?_) <;> first | (cases h; done) | rw [h] | skip) | refine uW hf rfl rfl ?_ | refine AK.seq ?_ | refine AOps.box kn rfl rfl rfl rfl (led_box _) rfl ?_ | refine AOps.indexP Tryd.hX kn rfl rfl rfl rfl rfl rfl rfl rfl rfl (by assumption) ?_ | refine AOps.loadB Tryd.hX kn rfl rfl rfl rfl rfl rfl rfl (aload_led (by assumption) rfl rfl) ?_ | refine AOps.loadB Tryd.hX kn rfl rfl rfl rfl rfl rfl (by assumption) (by rfl) ?_ | refine AOps.store Tryd.hX kn rfl rfl rfl rfl rfl rfl rfl rfl (led_beq (by assumption) rfl) (led_write (by assumption) rfl) rfl ?_ | refine AOps.store Tryd.hX kn rfl rfl rfl rfl rfl rfl rfl rfl rfl (by assumption) (by rfl) ?_ | refine AK.retW Tryd.hX hf (aresult_cell rfl rfl rfl rfl (aload_led (by assumption) rfl rfl) rfl) (led_close2 _ _) (Wk.refl _) | ((first | refine AOps.splitT rfl rfl rfl asm (fun h => ?_) | refine AOps.splitF rfl rfl rfl asm (fun h => ?_) | refine AOps.split rfl rfl rfl (fun h => ?_) (fun h => ?_)) <;> (fail_if_success (cases h; done)) <;> rw [h]))
  have c7 := decide_eq_false m1
  by_cases m2 : n > 1152921504606846976
  · have n3 : (bif decide (n < 0) then true else decide (n > 1152921504606846976)) = true := by rw [decide_eq_false m1, decide_eq_true m2]; rfl
    have c8 := decide_eq_true m2
    refine ⟨2, by decide, ?_⟩
    refine QCalls.of Tryd.func14 rfl (fun args w => Tryd.call14 args w) (Nat.le_of_ble_eq_true rfl) [(0, .c (.agg (ledCV l))), (1, .c (.int .i64 i)), (2, .c (.int .i64 j)), (3, .c (.int .i64 n))] rfl fun β hβ => ?_; have hf := Tryd.func14
    repeat' (first | refine st ?_ | (refine AK.condS rfl (fun h => ?_) (fun h => ?_) <;> first | (cases h; done) | rw [h] | skip) | refine uW hf rfl rfl ?_ | refine AK.seq ?_ | refine AOps.box kn rfl rfl rfl rfl (led_box _) rfl ?_ | refine AOps.indexP Tryd.hX kn rfl rfl rfl rfl rfl rfl rfl rfl rfl (by assumption) ?_ | refine AOps.loadB Tryd.hX kn rfl rfl rfl rfl rfl rfl rfl (aload_led (by assumption) rfl rfl) ?_ | refine AOps.loadB Tryd.hX kn rfl rfl rfl rfl rfl rfl (by assumption) (by rfl) ?_ | refine AOps.store Tryd.hX kn rfl rfl rfl rfl rfl rfl rfl rfl (led_beq (by assumption) rfl) (led_write (by assumption) rfl) rfl ?_ | refine AOps.store Tryd.hX kn rfl rfl rfl rfl rfl rfl rfl rfl rfl (by assumption) (by rfl) ?_ | refine AK.retW Tryd.hX hf (aresult_cell rfl rfl rfl rfl (aload_led (by assumption) rfl rfl) rfl) (led_close2 _ _) (Wk.refl _) | ((first | refine AOps.splitT rfl rfl rfl asm (fun h => ?_) | refine AOps.splitF rfl rfl rfl asm (fun h => ?_) | refine AOps.split rfl rfl rfl (fun h => ?_) (fun h => ?_)) <;> (fail_if_success (cases h; done)) <;> rw [h]))
  have c8 := decide_eq_false m2
  have n3 : (bif decide (n < 0) then true else decide (n > 1152921504606846976)) = false := by rw [decide_eq_false m1, decide_eq_false m2]; rfl
  by_cases b1 : aF.bal < n
  · have c9 := decide_eq_true b1
    refine ⟨8, by decide, ?_⟩
    refine QCalls.of Tryd.func14 rfl (fun args w => Tryd.call14 args w) (Nat.le_of_ble_eq_true rfl) [(0, .c (.agg (ledCV l))), (1, .c (.int .i64 i)), (2, .c (.int .i64 j)), (3, .c (.int .i64 n))] rfl fun β hβ => ?_; have hf := Tryd.func14
    repeat' (first | refine st ?_ | (refine AK.condS rfl (fun h => ?_) (fun h => ?_) <;> first | (cases h; done) | rw [h] | skip) | refine uW hf rfl rfl ?_ | refine AK.seq ?_ | refine AOps.box kn rfl rfl rfl rfl (led_box _) rfl ?_ | refine AOps.indexP Tryd.hX kn rfl rfl rfl rfl rfl rfl rfl rfl rfl (by assumption) ?_ | refine AOps.loadB Tryd.hX kn rfl rfl rfl rfl rfl rfl rfl (aload_led (by assumption) rfl rfl) ?_ | refine AOps.loadB Tryd.hX kn rfl rfl rfl rfl rfl rfl (by assumption) (by rfl) ?_ | refine AOps.store Tryd.hX kn rfl rfl rfl rfl rfl rfl rfl rfl (led_beq (by assumption) rfl) (led_write (by assumption) rfl) rfl ?_ | refine AOps.store Tryd.hX kn rfl rfl rfl rfl rfl rfl rfl rfl rfl (by assumption) (by rfl) ?_ | refine AK.retW Tryd.hX hf (aresult_cell rfl rfl rfl rfl (aload_led (by assumption) rfl rfl) rfl) (led_close2 _ _) (Wk.refl _) | ((first | refine AOps.splitT rfl rfl rfl asm (fun h => ?_) | refine AOps.splitF rfl rfl rfl asm (fun h => ?_) | refine AOps.split rfl rfl rfl (fun h => ?_) (fun h => ?_)) <;> (fail_if_success (cases h; done)) <;> rw [h]))
  exact absurd (hno i j aF aT rfl rfl haF haT i1 i2 (by omega) (by omega) (by omega)) id
end Go.Proofs

-- WK
set_option linter.unusedVariables false
set_option linter.unusedSimpArgs false
namespace Go.Abs
/-- bare -/
def lBare (a : Acc) : Bool :=
  if tyT a.param ≠ 0 then false else if (tyArgs a.param).length ≠ 0 then false else if tyT a.store ≠ 0 then false else if (tyArgs a.store).length ≠ 0 then false
  else if a.code.length ≠ 0 then false else vSame a.keep vl0
def sumB : List Acc → Int
  | [] => 0
  | a :: l => a.bal + sumB l
def lSum (l : Led) : Int := l.fees + sumB l.accs
theorem aload_acc {i : TI} {r : List AV} {a : Acc} (h1 : i.isAgg = true) (h2 : i.size = 15) (h : takeN 15 r = some (accAV a)) : aload i r = some (.agg (accAV a)) := by
  unfold aload; rw [h1, h2]; simp only [h]
theorem aload_accs {l : Led} {i : TI} (h12 : l.accs.length = 12) (h1 : i.isAgg = true) (h2 : i.size = 180) : aload i (ledAV l) = some (.agg (accsAV l)) := by
  unfold aload; rw [h1, h2]; simp only [led_accs h12]
theorem okAL_map (us : List Nat) : ∀ l : List CV, okAL us (l.map AV.c) = true
  | [] => by simp only [List.map_nil, okAL]
  | c :: l => by simp only [List.map_cons, okAL, okA, okAL_map us l]
theorem okAL_accs (us : List Nat) (l : Led) : okAL us (accsAV l) = true := okAL_map us _
theorem okAL_led (us : List Nat) (l : Led) : okAL us (ledAV l) = true := okAL_map us _
theorem sumB_nil : sumB [] = 0 := rfl
theorem sumB_cons (a : Acc) (l : List Acc) : sumB (a :: l) = a.bal + sumB l := rfl
theorem sumB_range : ∀ (l : List Acc), (∀ a ∈ l, 0 ≤ a.bal ∧ a.bal ≤ 4000000) → 0 ≤ sumB l ∧ sumB l ≤ 4000000 * l.length
  | [], _ => by simp [sumB]
  | a :: l, h => by
    have h1 := h a (by simp)
    have h2 := sumB_range l (fun x hx => h x (by simp [hx]))
    simp only [sumB, List.length_cons]
    omega
end Go.Abs
namespace Go.Proofs
open Go.Abs
attribute [local irreducible] AK AOps QCalls ECalls GCalls ledAV ledCV accsAV Led.setBal vSame sumB

set_option maxHeartbeats 0 in
theorem bare_calls (a : Acc) (hv : vlSize a.keep ≤ 1099511627776) (ht : accSize a ≤ 1048577) : QCalls Tryd.prog Tryd.X 25 [.agg (encA a)] (.bool (lBare a)) := by
  have h1 := vSame_calls a.keep vl0 hv
  unfold lBare
  obtain ⟨is, bal, cnt, ⟨pT, pA⟩, ⟨sT, sA⟩, code, ⟨k, n, m, s, args, types, lam⟩⟩ := a
  simp only [accSize, tySize] at ht
  simp only [tyT, tyArgs] at *
  have z1 := encTys_length pA
  have z2 := encTys_length sA
  have z3 := encNds_length code
  by_cases c1 : pT ≠ 0
  · rw [if_pos c1]
    have e1 : (pT == 0) = false := by simpa using c1
    clear h1
    refine QCalls.of Tryd.func25 rfl (fun args w => Tryd.call25 args w) (Nat.le_of_ble_eq_true rfl) [(0, .c (.agg (encA ⟨is, bal, cnt, .mk pT pA, .mk sT sA, code, .mk k n m s args types lam⟩)))] rfl fun β hβ => ?_; have hf := Tryd.func25
    repeat' (first | refine st ?_ | refine uW hf rfl rfl ?_ | ((first | refine AOps.splitT rfl rfl rfl asm (fun h => ?_) | refine AOps.splitF rfl rfl rfl asm (fun h => ?_) | refine AOps.split rfl rfl rfl (fun h => ?_) (fun h => ?_)) <;> (fail_if_success (cases h; done)) <;> rw [h]))
    all_goals exact Wk.refl _
  rw [if_neg c1]
  have e1 : (pT == 0) = true := by simpa using c1
  by_cases c2 : pA.length ≠ 0
  · rw [if_pos c2]
    have e2 : ((((encTys pA).length : Nat) : Int) == 0) = false := by rw [beq_eq_false_iff_ne]; omega
    clear h1
    refine QCalls.of Tryd.func25 rfl (fun args w => Tryd.call25 args w) (Nat.le_of_ble_eq_true rfl) [(0, .c (.agg (encA ⟨is, bal, cnt, .mk pT pA, .mk sT sA, code, .mk k n m s args types lam⟩)))] rfl fun β hβ => ?_; have hf := Tryd.func25
    repeat' (first | refine st ?_ | refine uW hf rfl rfl ?_ | ((first | refine AOps.splitT rfl rfl rfl asm (fun h => ?_) | refine AOps.splitF rfl rfl rfl asm (fun h => ?_) | refine AOps.split rfl rfl rfl (fun h => ?_) (fun h => ?_)) <;> (fail_if_success (cases h; done)) <;> rw [h]))
    all_goals exact Wk.refl _
  rw [if_neg c2]
  have e2 : ((((encTys pA).length : Nat) : Int) == 0) = true := by rw [beq_iff_eq]; omega
  by_cases c3 : sT ≠ 0
  · rw [if_pos c3]
    have e3 : (sT == 0) = false := by simpa using c3
    clear h1
    refine QCalls.of Tryd.func25 rfl (fun args w => Tryd.call25 args w) (Nat.le_of_ble_eq_true rfl) [(0, .c (.agg (encA ⟨is, bal, cnt, .mk pT pA, .mk sT sA, code, .mk k n m s args types lam⟩)))] rfl fun β hβ => ?_; have hf := Tryd.func25
    repeat' (first | refine st ?_ | refine uW hf rfl rfl ?_ | ((first | refine AOps.splitT rfl rfl rfl asm (fun h => ?_) | refine AOps.splitF rfl rfl rfl asm (fun h => ?_) | refine AOps.split rfl rfl rfl (fun h => ?_) (fun h => ?_)) <;> (fail_if_success (cases h; done)) <;> rw [h]))
    all_goals exact Wk.refl _
  rw [if_neg c3]
  have e3 : (sT == 0) = true := by simpa using c3
  by_cases c4 : sA.length ≠ 0
  · rw [if_pos c4]
    have e4 : ((((encTys sA).length : Nat) : Int) == 0) = false := by rw [beq_eq_false_iff_ne]; omega
    clear h1
    refine QCalls.of Tryd.func25 rfl (fun args w => Tryd.call25 args w) (Nat.le_of_ble_eq_true rfl) [(0, .c (.agg (encA ⟨is, bal, cnt, .mk pT pA, .mk sT sA, code, .mk k n m s args types lam⟩)))] rfl fun β hβ => ?_; have hf := Tryd.func25
    repeat' (first | refine st ?_ | refine uW hf rfl rfl ?_ | ((first | refine AOps.splitT rfl rfl rfl asm (fun h => ?_) | refine AOps.splitF rfl rfl rfl asm (fun h => ?_) | refine AOps.split rfl rfl rfl (fun h => ?_) (fun h => ?_)) <;> (fail_if_success (cases h; done)) <;> rw [h]))
    all_goals exact Wk.refl _
  rw [if_neg c4]
  have e4 : ((((encTys sA).length : Nat) : Int) == 0) = true := by rw [beq_iff_eq]; omega
  by_cases c5 : code.length ≠ 0
  · rw [if_pos c5]
    have e5 : ((((encNds code).length : Nat) : Int) == 0) = false := by rw [beq_eq_false_iff_ne]; omega
    clear h1
    refine QCalls.of Tryd.func25 rfl (fun args w => Tryd.call25 args w) (Nat.le_of_ble_eq_true rfl) [(0, .c (.agg (encA ⟨is, bal, cnt, .mk pT pA, .mk sT sA, code, .mk k n m s args types lam⟩)))] rfl fun β hβ => ?_; have hf := Tryd.func25
    repeat' (first | refine st ?_ | refine uW hf rfl rfl ?_ | ((first | refine AOps.splitT rfl rfl rfl asm (fun h => ?_) | refine AOps.splitF rfl rfl rfl asm (fun h => ?_) | refine AOps.split rfl rfl rfl (fun h => ?_) (fun h => ?_)) <;> (fail_if_success (cases h; done)) <;> rw [h]))
    all_goals exact Wk.refl _
  rw [if_neg c5]
  have e5 : ((((encNds code).length : Nat) : Int) == 0) = true := by rw [beq_iff_eq]; omega
  refine QCalls.of Tryd.func25 rfl (fun args w => Tryd.call25 args w) (Nat.le_of_ble_eq_true rfl) [(0, .c (.agg (encA ⟨is, bal, cnt, .mk pT pA, .mk sT sA, code, .mk k n m s args types lam⟩)))] rfl fun β hβ => ?_; have hf := Tryd.func25
  repeat' (first | refine st ?_ | refine uW hf rfl rfl ?_ | refine uC rfl h1 ?_ | ((first | refine AOps.splitT rfl rfl rfl asm (fun h => ?_) | refine AOps.splitF rfl rfl rfl asm (fun h => ?_) | refine AOps.split rfl rfl rfl (fun h => ?_) (fun h => ?_)) <;> (fail_if_success (cases h; done)) <;> rw [h]))
  all_goals exact Wk.refl _

set_option maxHeartbeats 0 in
set_option maxRecDepth 100000 in
theorem Sum_calls (l : Led) (h12 : l.accs.length = 12) (hf0 : 0 ≤ l.fees ∧ l.fees ≤ 4000000) (hb : ∀ a ∈ l.accs, 0 ≤ a.bal ∧ a.bal ≤ 4000000) :
    QCalls Tryd.prog Tryd.X 17 [.agg (ledCV l)] (.int .i64 (lSum l)) := by
  have dF := led_fees h12
  have hsum := sumB_range l.accs hb
  unfold lSum
  refine QCalls.of Tryd.func17 rfl (fun args w => Tryd.call17 args w) (Nat.le_of_ble_eq_true rfl) [(0, .c (.agg (ledCV l)))] rfl fun β hβ => ?_; have hf := Tryd.func17
  repeat' (first | refine st ?_ | (refine AK.condS rfl (fun h => ?_) (fun h => ?_) <;> first | (cases h; done) | rw [h] | skip) | refine uW hf rfl rfl ?_ | refine AK.seq ?_ | refine AOps.box kn rfl rfl rfl rfl (led_box _) rfl ?_ | refine AOps.loadB Tryd.hX kn rfl rfl rfl rfl rfl rfl rfl (aload_accs h12 rfl rfl) ?_ | refine AOps.loadB Tryd.hX kn rfl rfl rfl rfl rfl rfl dF rfl ?_)
  refine AK.loopE (α := Nat × Int) (fun z => z.1 ≤ 12 ∧ l.fees + sumB l.accs = z.2 + sumB (l.accs.drop z.1) ∧ 0 ≤ z.2 ∧ z.2 ≤ 4000000 * (z.1 + 1)) (fun z => 12 - z.1)
    (fun z => [(10, .c (.int .i64 z.1)), (9, .agg (accsAV l)), (3, .c (.int .i64 z.2))]) (fun _ => []) (fun _ => []) [] (0, l.fees)
    ⟨by omega, rfl, hf0.1, by simpa using hf0.2⟩ ⟨.inl rfl, .inl rfl, .inl rfl, trivial⟩ trivial trivial (by simp only [okE, okA, okAL_accs]) rfl rfl ?_
  rintro ⟨j, m⟩ ⟨hj, hinv, hm0, hm1⟩ ih
  simp only at hj hinv hm0 hm1
  by_cases hj2 : j < 12
  · obtain ⟨a, ha⟩ : ∃ a, l.accs[j]? = some a := ⟨l.accs[j]'(by omega), by simp⟩
    obtain ⟨r, d1, d2⟩ := accs_at h12 ha
    have hba := hb a (List.mem_of_getElem? ha)
    have lj : Nat.blt j 12 = true := by rw [Nat.blt_eq]; exact hj2
    have c1 : decide ((j : Int) < 12) = true := decide_eq_true (by omega)
    rw [drop_at ha, sumB_cons] at hinv
    have ih' := ih (j + 1, m + a.bal) ⟨hj2, by rw [hinv]; show _ = m + a.bal + sumB (l.accs.drop (j + 1)); omega, by show 0 ≤ m + a.bal; omega, by show m + a.bal ≤ _; push_cast; omega⟩ (by show 12 - (j + 1) < 12 - j; omega)
    clear ih hinv hb hsum
    obtain ⟨is, bal, cnt, ⟨pT, pA⟩, ⟨sT, sA⟩, code, ⟨k, n, q, s, args, types, lam⟩⟩ := a
    simp only at hba ih'
    repeat' (first | refine st ?_ | (refine AK.condS rfl (fun h => ?_) (fun h => ?_) <;> first | (cases h; done) | rw [h] | skip) | refine uW hf rfl rfl ?_ | refine AOps.indexArr Tryd.hX kn rfl rfl rfl rfl rfl rfl rfl rfl rfl lj d1 (aload_acc rfl rfl d2) ?_)
    have hw : some (AV.c (CV.int .i64 (IntKind.i64.wrap (m + bal)))) = some (AV.c (CV.int .i64 (m + bal))) := by rw [w64 (by omega) (by omega)]
    refine AK.again ih' ⟨.inl (succ64 (i := j) (by omega)), .inl rfl, .inl hw, trivial⟩ trivial trivial (by simp only [okE, okA, okAL_accs]) rfl rfl
  · have c1 : decide ((j : Int) < 12) = false := decide_eq_false (by omega)
    have hall : l.fees + sumB l.accs = m := by rw [hinv, List.drop_eq_nil_of_le (by omega), sumB_nil, Int.add_zero]
    rw [hall]
    clear ih
    repeat' (first | refine st ?_ | (refine AK.condS rfl (fun h => ?_) (fun h => ?_) <;> first | (cases h; done) | rw [h] | skip) | refine uW hf rfl rfl ?_)
    all_goals exact Wk.refl _
end Go.Proofs

-- WK
set_option linter.unusedVariables false
set_option linter.unusedSimpArgs false
namespace Go.Abs
def gOut (j : Nat) (a : Acc) : Bool := decide (a.bal < 0 ∨ a.bal > 4000000) || decide (a.cnt < 0 ∨ a.cnt > 1152921504606846976) || ((a.is == 1) != decide ((j : Int) < 4))
def gIn (a : Acc) : Bool :=
  if a.is = 1 then lBare a
  else if a.is = 0 then (lBare a && decide (a.bal = 0) && decide (a.cnt = 0))
  else if a.is = 2 then (decide (a.cnt = 0) && decide (cScript a.param a.store (.mk 3 0 0 [] a.code) = 0) && tFits a.store a.keep && decide (vSize a.keep ≤ 200))
  else false
def gAcc (j : Nat) (a : Acc) : Bool := !gOut j a && gIn a
def gAccs : Nat → List Acc → Bool
  | _, [] => true
  | j, a :: l => gAcc j a && gAccs (j + 1) l
def lGood (l : Led) : Bool := decide (0 ≤ l.fees ∧ l.fees ≤ 4000000) && gAccs 0 l.accs && decide (lSum l = 4000000)
theorem caps_led {l : Led} {ρ : Operand → Option AV} {x : Operand} (h : ρ x = some (.agg (ledAV l))) : capsOf ρ [x] = some [.agg (ledCV l)] := by
  have h1 := led_close l
  simp only [capsOf, h, h1]
theorem gAccs_n (j : Nat) : gAccs j [] = true := rfl
theorem gAccs_c (j : Nat) (a : Acc) (l : List Acc) : gAccs j (a :: l) = (gAcc j a && gAccs (j + 1) l) := rfl
theorem gAccs_bal : ∀ (l : List Acc) (j : Nat), gAccs j l = true → ∀ a ∈ l, 0 ≤ a.bal ∧ a.bal ≤ 4000000
  | a :: l, j, h, x, hx => by
    simp only [gAccs, Bool.and_eq_true] at h
    rcases List.mem_cons.1 hx with rfl | hx
    · have h1 := h.1
      simp only [gAcc, gOut, Bool.and_eq_true, Bool.not_eq_true', Bool.or_eq_false_iff, decide_eq_false_iff_not] at h1
      have := h1.1.1.1
      omega
    · exact gAccs_bal l (j + 1) h.2 x hx
end Go.Abs
namespace Go.Proofs
open Go.Abs
attribute [local irreducible] AK AOps QCalls ECalls GCalls ledAV ledCV accsAV Led.setBal vSame sumB lBare cScript tFits vSize lSum

set_option maxHeartbeats 0 in
set_option maxRecDepth 100000 in
theorem Good_step (l : Led) (h12 : l.accs.length = 12) (hs : ∀ a ∈ l.accs, accSize a ≤ 1048570) : QCalls Tryd.prog Tryd.X 15 [.agg (ledCV l)] (.bool (lGood l)) := by
  have dF := led_fees h12
  by_cases f1 : l.fees < 0
  · have e1 : (bif decide (l.fees < 0) then true else decide (l.fees > 4000000)) = true := by rw [decide_eq_true f1]; rfl
    have e2 := decide_eq_true f1
    have hres : lGood l = false := by unfold lGood; rw [decide_eq_false (by omega)]; rfl
    rw [hres]
    refine QCalls.of Tryd.func15 rfl (fun args w => Tryd.call15 args w) (Nat.le_of_ble_eq_true rfl) [(0, .c (.agg (ledCV l)))] rfl fun β hβ => ?_; have hf := Tryd.func15
    repeat' (first | refine st ?_ | (refine AK.condS rfl (fun h => ?_) (fun h => ?_) <;> first | (cases h; done) | rw [h] | skip) | refine uW hf rfl rfl ?_ | refine AK.skip ?_ | refine AK.seq ?_ | refine AK.block ?_ | refine AOps.box kn rfl rfl rfl rfl (led_box _) rfl ?_ | refine AOps.loadB Tryd.hX kn rfl rfl rfl rfl rfl rfl dF rfl ?_ | ((first | refine AOps.splitT rfl rfl rfl asm (fun h => ?_) | refine AOps.splitF rfl rfl rfl asm (fun h => ?_) | refine AOps.split rfl rfl rfl (fun h => ?_) (fun h => ?_)) <;> (fail_if_success (cases h; done)) <;> rw [h]))
    all_goals exact Wk.refl _
  have e2 := decide_eq_false f1
  by_cases f2 : l.fees > 4000000
  · have e1 : (bif decide (l.fees < 0) then true else decide (l.fees > 4000000)) = true := by rw [decide_eq_false f1, decide_eq_true f2]; rfl
    have e4 : (bif false then true else decide (l.fees > 4000000)) = true := by rw [decide_eq_true f2]; rfl
    have hres : lGood l = false := by unfold lGood; rw [decide_eq_false (by omega)]; rfl
    rw [hres]
    refine QCalls.of Tryd.func15 rfl (fun args w => Tryd.call15 args w) (Nat.le_of_ble_eq_true rfl) [(0, .c (.agg (ledCV l)))] rfl fun β hβ => ?_; have hf := Tryd.func15
    repeat' (first | refine st ?_ | (refine AK.condS rfl (fun h => ?_) (fun h => ?_) <;> first | (cases h; done) | rw [h] | skip) | refine uW hf rfl rfl ?_ | refine AK.skip ?_ | refine AK.seq ?_ | refine AK.block ?_ | refine AOps.box kn rfl rfl rfl rfl (led_box _) rfl ?_ | refine AOps.loadB Tryd.hX kn rfl rfl rfl rfl rfl rfl dF rfl ?_ | ((first | refine AOps.splitT rfl rfl rfl asm (fun h => ?_) | refine AOps.splitF rfl rfl rfl asm (fun h => ?_) | refine AOps.split rfl rfl rfl (fun h => ?_) (fun h => ?_)) <;> (fail_if_success (cases h; done)) <;> rw [h]))
    all_goals exact Wk.refl _
  have e3 := decide_eq_false f2
  have e4 : (bif false then true else decide (l.fees > 4000000)) = false := by rw [e3]; rfl
  have e1 : (bif decide (l.fees < 0) then true else decide (l.fees > 4000000)) = false := by rw [decide_eq_false f1, decide_eq_false f2]; rfl
  have hG : lGood l = (gAccs 0 l.accs && decide (lSum l = 4000000)) := by unfold lGood; rw [decide_eq_true (by omega), Bool.true_and]
  rw [hG]
  clear hG
  refine QCalls.of Tryd.func15 rfl (fun args w => Tryd.call15 args w) (Nat.le_of_ble_eq_true rfl) [(0, .c (.agg (ledCV l)))] rfl fun β hβ => ?_; have hf := Tryd.func15
  repeat' (first | refine st ?_ | (refine AK.condS rfl (fun h => ?_) (fun h => ?_) <;> first | (cases h; done) | rw [h] | skip) | refine uW hf rfl rfl ?_ | refine AK.skip ?_ | refine AK.seq ?_ | refine AK.block ?_ | refine AOps.box kn rfl rfl rfl rfl (led_box _) rfl ?_ | refine AOps.loadB Tryd.hX kn rfl rfl rfl rfl rfl rfl dF rfl ?_ | refine AOps.loadB Tryd.hX kn rfl rfl rfl rfl rfl rfl rfl (aload_accs h12 rfl rfl) ?_ | ((first | refine AOps.splitT rfl rfl rfl asm (fun h => ?_) | refine AOps.splitF rfl rfl rfl asm (fun h => ?_) | refine AOps.split rfl rfl rfl (fun h => ?_) (fun h => ?_)) <;> (fail_if_success (cases h; done)) <;> rw [h]))
  refine AK.loopE (α := Nat) (fun j => j ≤ 12 ∧ gAccs 0 l.accs = gAccs j (l.accs.drop j)) (fun j => 12 - j)
    (fun j => [(15, .c (.int .i64 j)), (14, .agg (accsAV l)), (1, .ptr 1 0)]) (fun _ => [(1, ledAV l)]) (fun _ => []) [1] 0
    ⟨by omega, rfl⟩ ⟨.inl rfl, .inl rfl, .inl rfl, trivial⟩ ⟨rfl, trivial⟩ trivial (by simp only [okE, okA, okAL_accs]; rfl) (by simp only [okB, okAL_led]; rfl) rfl ?_
  rintro j ⟨hj, hinv⟩ ih
  by_cases hj2 : j < 12
  rotate_left
  · have c1 : decide ((j : Int) < 12) = false := decide_eq_false (by omega)
    have hall : gAccs 0 l.accs = true := by rw [hinv, List.drop_eq_nil_of_le (by omega), gAccs_n]
    have hsum := Sum_calls l h12 ⟨by omega, by omega⟩ (gAccs_bal _ _ hall)
    rw [hall, Bool.true_and]
    clear ih
    repeat' (first | refine st ?_ | (refine AK.condS rfl (fun h => ?_) (fun h => ?_) <;> first | (cases h; done) | rw [h] | skip) | refine uW hf rfl rfl ?_ | refine AK.exit rfl ?_ | refine AK.skip ?_ | refine AK.seq ?_ | refine AOps.loadB Tryd.hX kn rfl rfl rfl rfl rfl rfl rfl (aload_led (by assumption) rfl rfl) ?_ | refine AOps.callq kn rfl rfl rfl (caps_led rfl) hsum ?_ | ((first | refine AOps.splitT rfl rfl rfl asm (fun h => ?_) | refine AOps.splitF rfl rfl rfl asm (fun h => ?_) | refine AOps.split rfl rfl rfl (fun h => ?_) (fun h => ?_)) <;> (fail_if_success (cases h; done)) <;> rw [h]))
    all_goals exact Wk.of_eq (congrArg CV.bool (Bool.beq_eq_decide_eq _ _))
  obtain ⟨a, ha⟩ : ∃ a, l.accs[j]? = some a := ⟨l.accs[j]'(by omega), by simp⟩
  obtain ⟨r, d1, d2⟩ := accs_at h12 ha
  have hsz := hs a (List.mem_of_getElem? ha)
  have lj : Nat.blt j 12 = true := by rw [Nat.blt_eq]; exact hj2
  have c1 : decide ((j : Int) < 12) = true := decide_eq_true (by omega)
  rw [drop_at ha, gAccs_c] at hinv
  have ih' := ih (j + 1)
  clear ih
  obtain ⟨is, bal, cnt, ⟨pT, pA⟩, ⟨sT, sA⟩, code, ⟨k, n, m, s, args, types, lam⟩⟩ := a
  simp only [accSize, tySize] at hsz
  have hbare := bare_calls ⟨is, bal, cnt, .mk pT pA, .mk sT sA, code, .mk k n m s args types lam⟩ (by show vlSize (.mk k n m s args types lam) ≤ _; omega) (by simp only [accSize, tySize]; omega)
  have hscr := Script_calls (.mk pT pA) (.mk sT sA) (.mk 3 0 0 [] code) (by simp only [tySize]; omega) (by simp only [ndSize, List.length_nil]; omega)
  have hfit := Fits_calls (.mk sT sA) (.mk k n m s args types lam) (by simp only [tySize]; omega) (by omega)
  have hsiz := Size_calls (.mk k n m s args types lam) (by omega)
  unfold gAcc gOut gIn at hinv
  dsimp only at hinv
  generalize lBare ⟨is, bal, cnt, .mk pT pA, .mk sT sA, code, .mk k n m s args types lam⟩ = B at hbare hinv
  generalize cScript (.mk pT pA) (.mk sT sA) (.mk 3 0 0 [] code) = S at hscr hinv
  generalize tFits (.mk sT sA) (.mk k n m s args types lam) = T at hfit hinv
  generalize vSize (.mk k n m s args types lam) = V at hsiz hinv
  by_cases q1 : bal < 0
  · have u1 := decide_eq_true q1
    have k1 : (bif decide (bal < 0) then true else decide (bal > 4000000)) = true := by rw [u1]; rfl
    have hres : gAccs 0 l.accs = false := by rw [hinv]; rw [decide_eq_true (show bal < 0 ∨ bal > 4000000 by omega)]; rfl
    rw [hres, Bool.false_and]
    clear ih' hinv
    repeat' (first | refine st ?_ | (refine AK.condS rfl (fun h => ?_) (fun h => ?_) <;> first | (cases h; done) | rw [h] | skip) | refine uW hf rfl rfl ?_ | refine AOps.indexArr Tryd.hX kn rfl rfl rfl rfl rfl rfl rfl rfl rfl lj d1 (aload_acc rfl rfl d2) ?_ | ((first | refine AOps.splitT rfl rfl rfl asm (fun h => ?_) | refine AOps.splitF rfl rfl rfl asm (fun h => ?_) | refine AOps.split rfl rfl rfl (fun h => ?_) (fun h => ?_)) <;> (fail_if_success (cases h; done)) <;> rw [h]))
    all_goals exact Wk.refl _
  have u1 := decide_eq_false q1
  by_cases q2 : bal > 4000000
  · have u2 := decide_eq_true q2
    have k1 : (bif decide (bal < 0) then true else decide (bal > 4000000)) = true := by rw [u1, u2]; rfl
    have k2 : (bif false then true else decide (bal > 4000000)) = true := by rw [u2]; rfl
    have hres : gAccs 0 l.accs = false := by rw [hinv]; rw [decide_eq_true (show bal < 0 ∨ bal > 4000000 by omega)]; rfl
    rw [hres, Bool.false_and]
    clear ih' hinv
    repeat' (first | refine st ?_ | (refine AK.condS rfl (fun h => ?_) (fun h => ?_) <;> first | (cases h; done) | rw [h] | skip) | refine uW hf rfl rfl ?_ | refine AOps.indexArr Tryd.hX kn rfl rfl rfl rfl rfl rfl rfl rfl rfl lj d1 (aload_acc rfl rfl d2) ?_ | ((first | refine AOps.splitT rfl rfl rfl asm (fun h => ?_) | refine AOps.splitF rfl rfl rfl asm (fun h => ?_) | refine AOps.split rfl rfl rfl (fun h => ?_) (fun h => ?_)) <;> (fail_if_success (cases h; done)) <;> rw [h]))
    all_goals exact Wk.refl _
  have u2 := decide_eq_false q2
  have k1 : (bif decide (bal < 0) then true else decide (bal > 4000000)) = false := by rw [u1, u2]; rfl
  have k2 : (bif false then true else decide (bal > 4000000)) = false := by rw [u2]; rfl
  rw [decide_eq_false (show ¬ (bal < 0 ∨ bal > 4000000) by omega), Bool.false_or] at hinv
  by_cases q3 : cnt < 0
  · have u3 := decide_eq_true q3
    have k3 : (bif false then true else decide (cnt < 0)) = true := by rw [u3]; rfl
    have hres : gAccs 0 l.accs = false := by rw [hinv]; rw [decide_eq_true (show cnt < 0 ∨ cnt > 1152921504606846976 by omega)]; rfl
    rw [hres, Bool.false_and]
    clear ih' hinv
    repeat' (first | refine st ?_ | (refine AK.condS rfl (fun h => ?_) (fun h => ?_) <;> first | (cases h; done) | rw [h] | skip) | refine uW hf rfl rfl ?_ | refine AOps.indexArr Tryd.hX kn rfl rfl rfl rfl rfl rfl rfl rfl rfl lj d1 (aload_acc rfl rfl d2) ?_ | ((first | refine AOps.splitT rfl rfl rfl asm (fun h => ?_) | refine AOps.splitF rfl rfl rfl asm (fun h => ?_) | refine AOps.split rfl rfl rfl (fun h => ?_) (fun h => ?_)) <;> (fail_if_success (cases h; done)) <;> rw [h]))
    all_goals exact Wk.refl _
  have u3 := decide_eq_false q3
  have k3 : (bif false then true else decide (cnt < 0)) = false := by rw [u3]; rfl
  by_cases q4 : cnt > 1152921504606846976
  · have u4 := decide_eq_true q4
    have k4 : (bif false then true else decide (cnt > 1152921504606846976)) = true := by rw [u4]; rfl
    have hres : gAccs 0 l.accs = false := by rw [hinv]; rw [decide_eq_true (show cnt < 0 ∨ cnt > 1152921504606846976 by omega)]; rfl
    rw [hres, Bool.false_and]
    clear ih' hinv
    repeat' (first | refine st ?_ | (refine AK.condS rfl (fun h => ?_) (fun h => ?_) <;> first | (cases h; done) | rw [h] | skip) | refine uW hf rfl rfl ?_ | refine AOps.indexArr Tryd.hX kn rfl rfl rfl rfl rfl rfl rfl rfl rfl lj d1 (aload_acc rfl rfl d2) ?_ | ((first | refine AOps.splitT rfl rfl rfl asm (fun h => ?_) | refine AOps.splitF rfl rfl rfl asm (fun h => ?_) | refine AOps.split rfl rfl rfl (fun h => ?_) (fun h => ?_)) <;> (fail_if_success (cases h; done)) <;> rw [h]))
    all_goals exact Wk.refl _
  have u4 := decide_eq_false q4
  have k4 : (bif false then true else decide (cnt > 1152921504606846976)) = false := by rw [u4]; rfl
  rw [decide_eq_false (show ¬ (cnt < 0 ∨ cnt > 1152921504606846976) by omega), Bool.false_or] at hinv
  cases u5 : (!((is == 1) == decide ((j : Int) < 4))) with
  | true =>
    have k5 : (bif false then true else (!((is == 1) == decide ((j : Int) < 4)))) = true := by rw [u5]; rfl
    have hres : gAccs 0 l.accs = false := by rw [hinv]; rw [show ((is == 1) != decide ((j : Int) < 4)) = true from u5]; rfl
    rw [hres, Bool.false_and]
    clear ih' hinv
    repeat' (first | refine st ?_ | (refine AK.condS rfl (fun h => ?_) (fun h => ?_) <;> first | (cases h; done) | rw [h] | skip) | refine uW hf rfl rfl ?_ | refine AOps.indexArr Tryd.hX kn rfl rfl rfl rfl rfl rfl rfl rfl rfl lj d1 (aload_acc rfl rfl d2) ?_ | ((first | refine AOps.splitT rfl rfl rfl asm (fun h => ?_) | refine AOps.splitF rfl rfl rfl asm (fun h => ?_) | refine AOps.split rfl rfl rfl (fun h => ?_) (fun h => ?_)) <;> (fail_if_success (cases h; done)) <;> rw [h]))
    all_goals exact Wk.refl _
  | false =>
  have k5 : (bif false then true else (!((is == 1) == decide ((j : Int) < 4)))) = false := by rw [u5]; rfl
  rw [show ((is == 1) != decide ((j : Int) < 4)) = false from u5] at hinv
  by_cases i1 : is = 1
  · have v1 : (is == 1) = true := by simpa using i1
    rw [if_pos i1] at hinv
    cases B with
    | false =>
      have hres : gAccs 0 l.accs = false := by rw [hinv]; rfl
      rw [hres, Bool.false_and]
      clear ih' hinv
      repeat' (first | refine st ?_ | (refine AK.condS rfl (fun h => ?_) (fun h => ?_) <;> first | (cases h; done) | rw [h] | skip) | refine uW hf rfl rfl ?_ | refine AOps.indexArr Tryd.hX kn rfl rfl rfl rfl rfl rfl rfl rfl rfl lj d1 (aload_acc rfl rfl d2) ?_ | refine uC rfl hbare ?_ | ((first | refine AOps.splitT rfl rfl rfl asm (fun h => ?_) | refine AOps.splitF rfl rfl rfl asm (fun h => ?_) | refine AOps.split rfl rfl rfl (fun h => ?_) (fun h => ?_)) <;> (fail_if_success (cases h; done)) <;> rw [h]))
      all_goals exact Wk.refl _
    | true =>
      have hres : gAccs 0 l.accs = gAccs (j + 1) (l.accs.drop (j + 1)) := by rw [hinv]; rfl
      have ih2 := ih' ⟨hj2, hres⟩ (by omega)
      clear ih' hinv
      repeat' (first | refine st ?_ | (refine AK.condS rfl (fun h => ?_) (fun h => ?_) <;> first | (cases h; done) | rw [h] | skip) | refine uW hf rfl rfl ?_ | refine AOps.indexArr Tryd.hX kn rfl rfl rfl rfl rfl rfl rfl rfl rfl lj d1 (aload_acc rfl rfl d2) ?_ | refine uC rfl hbare ?_ | ((first | refine AOps.splitT rfl rfl rfl asm (fun h => ?_) | refine AOps.splitF rfl rfl rfl asm (fun h => ?_) | refine AOps.split rfl rfl rfl (fun h => ?_) (fun h => ?_)) <;> (fail_if_success (cases h; done)) <;> rw [h]))
      exact AK.again ih2 ⟨.inl (succ64 (i := j) (by omega)), .inl rfl, .inl rfl, trivial⟩ ⟨rfl, trivial⟩ trivial (by simp only [okE, okA, okAL_accs]; rfl) (by simp only [okB, okAL_led]; rfl) rfl
  have v1 : (is == 1) = false := by simpa using i1
  rw [if_neg i1] at hinv
  by_cases i0 : is = 0
  · have v0 : (is == 0) = true := by simpa using i0
    rw [if_pos i0] at hinv
    cases B with
    | false =>
      have hres : gAccs 0 l.accs = false := by rw [hinv]; rfl
      rw [hres, Bool.false_and]
      clear ih' hinv
      repeat' (first | refine st ?_ | (refine AK.condS rfl (fun h => ?_) (fun h => ?_) <;> first | (cases h; done) | rw [h] | skip) | refine uW hf rfl rfl ?_ | refine AOps.indexArr Tryd.hX kn rfl rfl rfl rfl rfl rfl rfl rfl rfl lj d1 (aload_acc rfl rfl d2) ?_ | refine uC rfl hbare ?_ | ((first | refine AOps.splitT rfl rfl rfl asm (fun h => ?_) | refine AOps.splitF rfl rfl rfl asm (fun h => ?_) | refine AOps.split rfl rfl rfl (fun h => ?_) (fun h => ?_)) <;> (fail_if_success (cases h; done)) <;> rw [h]))
      all_goals exact Wk.refl _
    | true =>
      by_cases w1 : bal ≠ 0
      · have x1 : (bal != 0) = true := by simpa using w1
        have y1 : (bif false then true else (bal != 0)) = true := by rw [x1]; rfl
        have hres : gAccs 0 l.accs = false := by rw [hinv]; rw [decide_eq_false w1]; rfl
        rw [hres, Bool.false_and]
        clear ih' hinv
        repeat' (first | refine st ?_ | (refine AK.condS rfl (fun h => ?_) (fun h => ?_) <;> first | (cases h; done) | rw [h] | skip) | refine uW hf rfl rfl ?_ | refine AOps.indexArr Tryd.hX kn rfl rfl rfl rfl rfl rfl rfl rfl rfl lj d1 (aload_acc rfl rfl d2) ?_ | refine uC rfl hbare ?_ | ((first | refine AOps.splitT rfl rfl rfl asm (fun h => ?_) | refine AOps.splitF rfl rfl rfl asm (fun h => ?_) | refine AOps.split rfl rfl rfl (fun h => ?_) (fun h => ?_)) <;> (fail_if_success (cases h; done)) <;> rw [h]))
        all_goals exact Wk.refl _
      have x1 : (bal != 0) = false := by simpa using w1
      have y1 : (bif false then true else (bal != 0)) = false := by rw [x1]; rfl
      rw [decide_eq_true (show bal = 0 by omega)] at hinv
      by_cases w2 : cnt ≠ 0
      · have x2 : (cnt != 0) = true := by simpa using w2
        have y2 : (bif false then true else (cnt != 0)) = true := by rw [x2]; rfl
        have hres : gAccs 0 l.accs = false := by rw [hinv]; rw [decide_eq_false w2]; rfl
        rw [hres, Bool.false_and]
        clear ih' hinv
        repeat' (first | refine st ?_ | (refine AK.condS rfl (fun h => ?_) (fun h => ?_) <;> first | (cases h; done) | rw [h] | skip) | refine uW hf rfl rfl ?_ | refine AOps.indexArr Tryd.hX kn rfl rfl rfl rfl rfl rfl rfl rfl rfl lj d1 (aload_acc rfl rfl d2) ?_ | refine uC rfl hbare ?_ | ((first | refine AOps.splitT rfl rfl rfl asm (fun h => ?_) | refine AOps.splitF rfl rfl rfl asm (fun h => ?_) | refine AOps.split rfl rfl rfl (fun h => ?_) (fun h => ?_)) <;> (fail_if_success (cases h; done)) <;> rw [h]))
        all_goals exact Wk.refl _
      have x2 : (cnt != 0) = false := by simpa using w2
      have y2 : (bif false then true else (cnt != 0)) = false := by rw [x2]; rfl
      rw [decide_eq_true (show cnt = 0 by omega)] at hinv
      have hres : gAccs 0 l.accs = gAccs (j + 1) (l.accs.drop (j + 1)) := by rw [hinv]; rfl
      have ih2 := ih' ⟨hj2, hres⟩ (by omega)
      clear ih' hinv
      repeat' (first | refine st ?_ | (refine AK.condS rfl (fun h => ?_) (fun h => ?_) <;> first | (cases h; done) | rw [h] | skip) | refine uW hf rfl rfl ?_ | refine AOps.indexArr Tryd.hX kn rfl rfl rfl rfl rfl rfl rfl rfl rfl lj d1 (aload_acc rfl rfl d2) ?_ | refine uC rfl hbare ?_ | ((first | refine AOps.splitT rfl rfl rfl asm (fun h => ?_) | refine AOps.splitF rfl rfl rfl asm (fun h => ?_) | refine AOps.split rfl rfl rfl (fun h => ?_) (fun h => ?_)) <;> (fail_if_success (cases h; done)) <;> rw [h]))
      exact AK.again ih2 ⟨.inl (succ64 (i := j) (by omega)), .inl rfl, .inl rfl, trivial⟩ ⟨rfl, trivial⟩ trivial (by simp only [okE, okA, okAL_accs]; rfl) (by simp only [okB, okAL_led]; rfl) rfl
  have v0 : (is == 0) = false := by simpa using i0
  rw [if_neg i0] at hinv
  by_cases i2 : is = 2
  rotate_left
  · have v2 : (is == 2) = false := by simpa using i2
    rw [if_neg i2] at hinv
    have hres : gAccs 0 l.accs = false := by rw [hinv]; rfl
    rw [hres, Bool.false_and]
    clear ih' hinv
    repeat' (first | refine st ?_ | (refine AK.condS rfl (fun h => ?_) (fun h => ?_) <;> first | (cases h; done) | rw [h] | skip) | refine uW hf rfl rfl ?_ | refine AOps.indexArr Tryd.hX kn rfl rfl rfl rfl rfl rfl rfl rfl rfl lj d1 (aload_acc rfl rfl d2) ?_ | ((first | refine AOps.splitT rfl rfl rfl asm (fun h => ?_) | refine AOps.splitF rfl rfl rfl asm (fun h => ?_) | refine AOps.split rfl rfl rfl (fun h => ?_) (fun h => ?_)) <;> (fail_if_success (cases h; done)) <;> rw [h]))
    all_goals exact Wk.refl _
  have v2 : (is == 2) = true := by simpa using i2
  rw [if_pos i2] at hinv
  by_cases w2 : cnt ≠ 0
  · have x2 : (cnt != 0) = true := by simpa using w2
    have hres : gAccs 0 l.accs = false := by rw [hinv]; rw [decide_eq_false w2]; rfl
    rw [hres, Bool.false_and]
    clear ih' hinv
    repeat' (first | refine st ?_ | (refine AK.condS rfl (fun h => ?_) (fun h => ?_) <;> first | (cases h; done) | rw [h] | skip) | refine uW hf rfl rfl ?_ | refine AOps.indexArr Tryd.hX kn rfl rfl rfl rfl rfl rfl rfl rfl rfl lj d1 (aload_acc rfl rfl d2) ?_ | ((first | refine AOps.splitT rfl rfl rfl asm (fun h => ?_) | refine AOps.splitF rfl rfl rfl asm (fun h => ?_) | refine AOps.split rfl rfl rfl (fun h => ?_) (fun h => ?_)) <;> (fail_if_success (cases h; done)) <;> rw [h]))
    all_goals exact Wk.refl _
  have x2 : (cnt != 0) = false := by simpa using w2
  rw [decide_eq_true (show cnt = 0 by omega)] at hinv
  by_cases w3 : S ≠ 0
  · have x3 : (S != 0) = true := by simpa using w3
    have y3 : (bif false then true else (S != 0)) = true := by rw [x3]; rfl
    have hres : gAccs 0 l.accs = false := by rw [hinv]; rw [decide_eq_false w3]; rfl
    rw [hres, Bool.false_and]
    clear ih' hinv
    repeat' (first | refine st ?_ | (refine AK.condS rfl (fun h => ?_) (fun h => ?_) <;> first | (cases h; done) | rw [h] | skip) | refine uW hf rfl rfl ?_ | refine AOps.indexArr Tryd.hX kn rfl rfl rfl rfl rfl rfl rfl rfl rfl lj d1 (aload_acc rfl rfl d2) ?_ | refine uC rfl hscr ?_ | ((first | refine AOps.splitT rfl rfl rfl asm (fun h => ?_) | refine AOps.splitF rfl rfl rfl asm (fun h => ?_) | refine AOps.split rfl rfl rfl (fun h => ?_) (fun h => ?_)) <;> (fail_if_success (cases h; done)) <;> rw [h]))
    all_goals exact Wk.refl _
  have x3 : (S != 0) = false := by simpa using w3
  have y3 : (bif false then true else (S != 0)) = false := by rw [x3]; rfl
  rw [decide_eq_true (show S = 0 by omega)] at hinv
  cases T with
  | false =>
    have hres : gAccs 0 l.accs = false := by rw [hinv]; rfl
    rw [hres, Bool.false_and]
    clear ih' hinv
    repeat' (first | refine st ?_ | (refine AK.condS rfl (fun h => ?_) (fun h => ?_) <;> first | (cases h; done) | rw [h] | skip) | refine uW hf rfl rfl ?_ | refine AOps.indexArr Tryd.hX kn rfl rfl rfl rfl rfl rfl rfl rfl rfl lj d1 (aload_acc rfl rfl d2) ?_ | refine uC rfl hscr ?_ | refine uC rfl hfit ?_ | ((first | refine AOps.splitT rfl rfl rfl asm (fun h => ?_) | refine AOps.splitF rfl rfl rfl asm (fun h => ?_) | refine AOps.split rfl rfl rfl (fun h => ?_) (fun h => ?_)) <;> (fail_if_success (cases h; done)) <;> rw [h]))
    all_goals exact Wk.refl _
  | true =>
  by_cases w4 : (V : Int) > 200
  · have x4 : decide ((V : Int) > 200) = true := decide_eq_true w4
    have y4 : (bif false then true else decide ((V : Int) > 200)) = true := by rw [x4]; rfl
    have hres : gAccs 0 l.accs = false := by rw [hinv]; rw [decide_eq_false (show ¬ V ≤ 200 by omega)]; rfl
    rw [hres, Bool.false_and]
    clear ih' hinv
    repeat' (first | refine st ?_ | (refine AK.condS rfl (fun h => ?_) (fun h => ?_) <;> first | (cases h; done) | rw [h] | skip) | refine uW hf rfl rfl ?_ | refine AOps.indexArr Tryd.hX kn rfl rfl rfl rfl rfl rfl rfl rfl rfl lj d1 (aload_acc rfl rfl d2) ?_ | refine uC rfl hscr ?_ | refine uC rfl hfit ?_ | refine uC rfl hsiz ?_ | ((first | refine AOps.splitT rfl rfl rfl asm (fun h => ?_) | refine AOps.splitF rfl rfl rfl asm (fun h => ?_) | refine AOps.split rfl rfl rfl (fun h => ?_) (fun h => ?_)) <;> (fail_if_success (cases h; done)) <;> rw [h]))
    all_goals exact Wk.refl _
  have x4 : decide ((V : Int) > 200) = false := decide_eq_false w4
  have y4 : (bif false then true else decide ((V : Int) > 200)) = false := by rw [x4]; rfl
  rw [decide_eq_true (show V ≤ 200 by omega)] at hinv
  have hres : gAccs 0 l.accs = gAccs (j + 1) (l.accs.drop (j + 1)) := by rw [hinv]; rfl
  have ih2 := ih' ⟨hj2, hres⟩ (by omega)
  clear ih' hinv
  repeat' (first | refine st ?_ | (refine AK.condS rfl (fun h => ?_) (fun h => ?_) <;> first | (cases h; done) | rw [h] | skip) | refine uW hf rfl rfl ?_ | refine AOps.indexArr Tryd.hX kn rfl rfl rfl rfl rfl rfl rfl rfl rfl lj d1 (aload_acc rfl rfl d2) ?_ | refine uC rfl hscr ?_ | refine uC rfl hfit ?_ | refine uC rfl hsiz ?_ | ((first | refine AOps.splitT rfl rfl rfl asm (fun h => ?_) | refine AOps.splitF rfl rfl rfl asm (fun h => ?_) | refine AOps.split rfl rfl rfl (fun h => ?_) (fun h => ?_)) <;> (fail_if_success (cases h; done)) <;> rw [h]))
  exact AK.again ih2 ⟨.inl (succ64 (i := j) (by omega)), .inl rfl, .inl rfl, trivial⟩ ⟨rfl, trivial⟩ trivial (by simp only [okE, okA, okAL_accs]; rfl) (by simp only [okB, okAL_led]; rfl) rfl
end Go.Proofs

-- WK
set_option linter.unusedVariables false
set_option linter.unusedSimpArgs false
namespace Go.Abs
def acc0 : Acc := ⟨0, 0, 0, ty0, ty0, [], vl0⟩
def acc1 (b : Int) : Acc := ⟨1, b, 0, ty0, ty0, [], vl0⟩
def led0 : Led := ⟨[acc1 1000000, acc1 1000000, acc1 1000000, acc1 1000000, acc0, acc0, acc0, acc0, acc0, acc0, acc0, acc0], 0⟩
def led1 : Led := ⟨[acc1 999995, acc1 1000005, acc1 1000000, acc1 1000000, acc0, acc0, acc0, acc0, acc0, acc0, acc0, acc0], 0⟩
theorem led1_good : lGood led1 = true := by decide +kernel
theorem led0_size : ∀ a ∈ led1.accs, accSize a ≤ 1048570 := by
  intro a ha
  have : a = acc0 ∨ ∃ b, a = acc1 b := by
    simp only [led1, List.mem_cons, List.not_mem_nil, or_false] at ha
    rcases ha with rfl | rfl | rfl | rfl | rfl | rfl | rfl | rfl | rfl | rfl | rfl | rfl <;> first | exact .inl rfl | exact .inr ⟨_, rfl⟩
  rcases this with rfl | ⟨b, rfl⟩
  · decide
  · show accSize (acc1 0) ≤ 1048570
    decide
theorem caps_ledc {l : Led} {ρ : Operand → Option AV} {x : Operand} {r : List Operand} {cs : List CV} (h : ρ x = some (.agg (ledAV l))) (hr : capsOf ρ r = some cs) : capsOf ρ (x :: r) = some (.agg (ledCV l) :: cs) := by
  have h1 := led_close l
  simp only [capsOf, h, h1, hr]
end Go.Abs
namespace Go.Proofs
open Go.Abs
attribute [local irreducible] AK AOps QCalls ECalls GCalls lGood

set_option maxHeartbeats 0 in
set_option maxRecDepth 100000 in
theorem New_calls : QCalls Tryd.prog Tryd.X 29 [] (.agg (ledCV led0)) := by
  refine QCalls.of Tryd.func29 rfl (fun args w => Tryd.call29 args w) (Nat.le_of_ble_eq_true rfl) [] rfl fun β hβ => ?_; have hf := Tryd.func29
  repeat' (first | refine st ?_ | (refine AK.condS rfl (fun h => ?_) (fun h => ?_) <;> first | (cases h; done) | rw [h] | skip) | refine uW hf rfl rfl ?_ | refine AK.loop ?_ | refine AK.inLoop ?_)
  all_goals exact Wk.of_eq rfl

theorem Move_books : QCalls Tryd.prog Tryd.X 14 [.agg (ledCV led0), .int .i64 0, .int .i64 1, .int .i64 5] (.tup [.agg (ledCV led1), .int .i64 0]) :=
  Move_ok led0 rfl 0 1 (acc1 1000000) (acc1 1000000) (acc1 1000000) rfl rfl 5 rfl rfl rfl (by decide) (by decide) (by decide) (by decide) (by decide)

attribute [local irreducible] ledAV ledCV accsAV Led.setBal
theorem books_facts : ∃ (A B : Led) (r : List AV), QCalls Tryd.prog Tryd.X 29 [] (.agg (ledCV A)) ∧ QCalls Tryd.prog Tryd.X 14 [.agg (ledCV A), .int .i64 0, .int .i64 1, .int .i64 5] (.tup [.agg (ledCV B), .int .i64 0]) ∧
    QCalls Tryd.prog Tryd.X 15 [.agg (ledCV B)] (.bool true) ∧ B.accs.length = 12 ∧ dropN 16 (ledAV B) = some (.c (.int .i64 1000005) :: r) := by
  have h3 := Good_step led1 rfl led0_size
  rw [led1_good] at h3
  obtain ⟨r, d1⟩ := led_bal (l := led1) (i := 1) (a := acc1 1000005) rfl rfl
  exact ⟨led0, led1, r, New_calls, Move_books, h3, rfl, d1⟩
set_option maxHeartbeats 0 in
set_option maxRecDepth 100000 in
theorem books_calls : QCalls Tryd.prog Tryd.X 16 [] (.bool true) := by
  obtain ⟨A, B, r, h1, h2, h3, h12, d2⟩ := books_facts
  refine QCalls.of Tryd.func16 rfl (fun args w => Tryd.call16 args w) (Nat.le_of_ble_eq_true rfl) [] rfl fun β hβ => ?_; have hf := Tryd.func16
  repeat' (first | refine st ?_ | refine uW hf rfl rfl ?_ | refine AOps.indexP Tryd.hX kn rfl rfl rfl rfl rfl rfl rfl rfl rfl rfl ?_ | refine uC rfl h1 ?_ | refine uC rfl h2 ?_ | refine AOps.store Tryd.hX kn rfl rfl rfl rfl rfl rfl rfl (led_box _) (led_beq h12 rfl) (led_write h12 rfl) rfl ?_ | refine AOps.loadB Tryd.hX kn rfl rfl rfl rfl rfl rfl d2 rfl ?_ | refine AOps.loadB Tryd.hX kn rfl rfl rfl rfl rfl rfl rfl (aload_led h12 rfl rfl) ?_ | refine AOps.callq kn rfl rfl rfl (caps_led rfl) h3 ?_ | ((first | refine AOps.splitT rfl rfl rfl asm (fun h => ?_) | refine AOps.splitF rfl rfl rfl asm (fun h => ?_) | refine AOps.split rfl rfl rfl (fun h => ?_) (fun h => ?_)) <;> (fail_if_success (cases h; done)) <;> rw [h]))
  all_goals exact Wk.refl _
end Go.Proofs

set_option linter.unusedVariables false
set_option linter.unusedSimpArgs false
namespace Go.Abs
theorem sumB_set : ∀ (l : List Acc) (i : Nat) (a : Acc) (z : Int), l[i]? = some a → sumB (setB l i z) = sumB l - a.bal + z
  | [], i, a, z, h => by simp at h
  | x :: l, 0, a, z, h => by
    simp at h; subst h
    simp only [setB, sumB, Acc.setBal]; omega
  | x :: l, i + 1, a, z, h => by
    simp only [List.getElem?_cons_succ] at h
    simp only [setB, sumB, sumB_set l i a z h]; omega
theorem sumB_nonneg : ∀ (l : List Acc), (∀ a ∈ l, 0 ≤ a.bal) → 0 ≤ sumB l
  | [], _ => by simp [sumB]
  | a :: l, h => by
    have h1 := h a (by simp)
    have h2 := sumB_nonneg l (fun x hx => h x (by simp [hx]))
    simp only [sumB]; omega
theorem sumB_one : ∀ (l : List Acc) (i : Nat) (a : Acc), (∀ a ∈ l, 0 ≤ a.bal) → l[i]? = some a → a.bal ≤ sumB l
  | [], i, a, _, h => by simp at h
  | x :: l, 0, a, hb, h => by
    simp at h; subst h
    have h2 := sumB_nonneg l (fun x hx => hb x (by simp [hx]))
    simp only [sumB]; omega
  | x :: l, i + 1, a, hb, h => by
    simp only [List.getElem?_cons_succ] at h
    have h1 := hb x (by simp)
    have h2 := sumB_one l i a (fun x hx => hb x (by simp [hx])) h
    simp only [sumB]; omega
theorem sumB_two : ∀ (l : List Acc) (i j : Nat) (a b : Acc), (∀ a ∈ l, 0 ≤ a.bal) → l[i]? = some a → l[j]? = some b → i ≠ j → a.bal + b.bal ≤ sumB l
  | [], i, j, a, b, _, h, _, _ => by simp at h
  | x :: l, 0, 0, a, b, hb, h, k, hn => absurd rfl hn
  | x :: l, 0, j + 1, a, b, hb, h, k, hn => by
    simp at h; subst h
    simp only [List.getElem?_cons_succ] at k
    have h2 := sumB_one l j b (fun x hx => hb x (by simp [hx])) k
    simp only [sumB]; omega
  | x :: l, i + 1, 0, a, b, hb, h, k, hn => by
    simp at k; subst k
    simp only [List.getElem?_cons_succ] at h
    have h2 := sumB_one l i a (fun x hx => hb x (by simp [hx])) h
    simp only [sumB]; omega
  | x :: l, i + 1, j + 1, a, b, hb, h, k, hn => by
    simp only [List.getElem?_cons_succ] at h k
    have h1 := hb x (by simp)
    have h2 := sumB_two l i j a b (fun x hx => hb x (by simp [hx])) h k (by omega)
    simp only [sumB]; omega
theorem lBare_set (a : Acc) (z : Int) : lBare (a.setBal z) = lBare a := rfl
theorem gAcc_set {j : Nat} {a : Acc} {z : Int} (h : gAcc j a = true) (h1 : a.is ≠ 0) (h2 : 0 ≤ z ∧ z ≤ 4000000) : gAcc j (a.setBal z) = true := by
  unfold gAcc gOut gIn at h ⊢
  simp only [lBare_set]
  have e1 : (a.setBal z).is = a.is := rfl
  have e2 : (a.setBal z).bal = z := rfl
  have e3 : (a.setBal z).cnt = a.cnt := rfl
  have e4 : (a.setBal z).param = a.param := rfl
  have e5 : (a.setBal z).store = a.store := rfl
  have e6 : (a.setBal z).code = a.code := rfl
  have e7 : (a.setBal z).keep = a.keep := rfl
  rw [e1, e2, e3, e4, e5, e6, e7]
  rw [Bool.and_eq_true] at h ⊢
  obtain ⟨ha, hb⟩ := h
  rw [if_neg h1] at hb ⊢
  refine ⟨?_, hb⟩
  rw [Bool.not_eq_true', Bool.or_eq_false_iff, Bool.or_eq_false_iff] at ha ⊢
  exact ⟨⟨decide_eq_false (by omega), ha.1.2⟩, ha.2⟩
theorem gAccs_set : ∀ (l : List Acc) (k i : Nat) (a : Acc) (z : Int), gAccs k l = true → l[i]? = some a → a.is ≠ 0 → 0 ≤ z ∧ z ≤ 4000000 → gAccs k (setB l i z) = true
  | [], k, i, a, z, _, h, _, _ => by simp at h
  | x :: l, k, 0, a, z, hg, h, h1, h2 => by
    simp at h; subst h
    simp only [gAccs, Bool.and_eq_true] at hg
    simp only [setB, gAccs, Bool.and_eq_true]
    exact ⟨gAcc_set hg.1 h1 h2, hg.2⟩
  | x :: l, k, i + 1, a, z, hg, h, h1, h2 => by
    simp only [List.getElem?_cons_succ] at h
    simp only [gAccs, Bool.and_eq_true] at hg
    simp only [setB, gAccs, Bool.and_eq_true]
    exact ⟨hg.1, gAccs_set l (k + 1) i a z hg.2 h h1 h2⟩
theorem lGood_iff {l : Led} : lGood l = true ↔ (0 ≤ l.fees ∧ l.fees ≤ 4000000) ∧ gAccs 0 l.accs = true ∧ lSum l = 4000000 := by
  unfold lGood
  rw [Bool.and_eq_true, Bool.and_eq_true, decide_eq_true_eq, decide_eq_true_eq, and_assoc]
/-- A good ledger after a move that is allowed. -/
theorem move_good {l : Led} {i j : Nat} {aF aT : Acc} {n : Int} (hg : lGood l = true) (haF : l.accs[i]? = some aF) (haT : l.accs[j]? = some aT) (isF : aF.is ≠ 0) (isT : aT.is ≠ 0) (h0 : 0 ≤ n) (hb : n ≤ aF.bal) :
    (0 ≤ aF.bal ∧ aF.bal ≤ 4000000) ∧ ∃ aT' : Acc, (l.setBal i (aF.bal - n)).accs[j]? = some aT' ∧ aT'.bal = (if i = j then aF.bal - n else aT.bal) ∧ aT'.is ≠ 0 ∧ 0 ≤ aT'.bal ∧ aT'.bal + n ≤ 4000000 ∧
      lGood ((l.setBal i (aF.bal - n)).setBal j (aT'.bal + n)) = true ∧ lSum ((l.setBal i (aF.bal - n)).setBal j (aT'.bal + n)) = lSum l := by
  obtain ⟨g1, g2, g3⟩ := lGood_iff.1 hg
  have hbal := gAccs_bal _ _ g2
  have bF := hbal aF (List.mem_of_getElem? haF)
  have bT := hbal aT (List.mem_of_getElem? haT)
  refine ⟨bF, ?_⟩
  have hget : (l.setBal i (aF.bal - n)).accs[j]? = if i = j then some (aT.setBal (aF.bal - n)) else some aT := by
    show (setB l.accs i (aF.bal - n))[j]? = _
    rw [setB_get, haT]
    rfl
  unfold lSum at g3
  by_cases hij : i = j
  · subst hij
    obtain rfl : aF = aT := by rw [haF] at haT; exact Option.some.inj haT
    rw [if_pos rfl] at hget
    have hget' : (setB l.accs i (aF.bal - n))[i]? = some (aF.setBal (aF.bal - n)) := hget
    have eb : (aF.setBal (aF.bal - n)).bal = aF.bal - n := rfl
    refine ⟨_, hget, by rw [if_pos rfl, eb], isF, by rw [eb]; omega, by rw [eb]; omega, ?_, ?_⟩
    · rw [lGood_iff]
      refine ⟨g1, ?_, ?_⟩
      · exact gAccs_set _ _ _ _ _ (gAccs_set _ _ _ _ _ g2 haF isF (by omega)) hget isF (by rw [eb]; omega)
      · show l.fees + sumB (setB (setB l.accs i (aF.bal - n)) i _) = _
        rw [sumB_set _ _ _ _ hget', sumB_set _ _ _ _ haF, eb]; omega
    · show l.fees + sumB (setB (setB l.accs i (aF.bal - n)) i _) = l.fees + sumB l.accs
      rw [sumB_set _ _ _ _ hget', sumB_set _ _ _ _ haF, eb]; omega
  · rw [if_neg hij] at hget
    have hget' : (setB l.accs i (aF.bal - n))[j]? = some aT := hget
    have h2 := sumB_two l.accs i j aF aT (fun a ha => (hbal a ha).1) haF haT hij
    refine ⟨_, hget, by rw [if_neg hij], isT, by omega, by omega, ?_, ?_⟩
    · rw [lGood_iff]
      refine ⟨g1, ?_, ?_⟩
      · exact gAccs_set _ _ _ _ _ (gAccs_set _ _ _ _ _ g2 haF isF (by omega)) hget isT (by omega)
      · show l.fees + sumB (setB (setB l.accs i (aF.bal - n)) j _) = _
        rw [sumB_set _ _ _ _ hget', sumB_set _ _ _ _ haF]; omega
    · show l.fees + sumB (setB (setB l.accs i (aF.bal - n)) j _) = l.fees + sumB l.accs
      rw [sumB_set _ _ _ _ hget', sumB_set _ _ _ _ haF]; omega
theorem setB_size : ∀ (l : List Acc) (i : Nat) (z : Int), (∀ a ∈ l, accSize a ≤ 1048570) → ∀ a ∈ setB l i z, accSize a ≤ 1048570
  | [], _, _, _ => fun a ha => by simp [setB] at ha
  | x :: l, 0, z, h => fun a ha => by
    rcases List.mem_cons.1 ha with rfl | ha
    · exact h x (by simp)
    · exact h a (by simp [ha])
  | x :: l, i + 1, z, h => fun a ha => by
    rcases List.mem_cons.1 ha with rfl | ha
    · exact h a (by simp)
    · exact setB_size l i z (fun b hb => h b (by simp [hb])) a ha
end Go.Abs

-- WK
set_option linter.unusedVariables false
set_option linter.unusedSimpArgs false
namespace Go.Proofs
open Go.Abs
attribute [local irreducible] AK AOps QCalls ECalls GCalls ledAV ledCV accsAV Led.setBal lGood lSum

set_option maxHeartbeats 0 in
set_option maxRecDepth 100000 in
theorem Keeps_bad (l M : Led) (h12 : l.accs.length = 12) (hM : M.accs.length = 12) (F T n e : Int) (hg : QCalls Tryd.prog Tryd.X 15 [.agg (ledCV l)] (.bool false))
    (hq : QCalls Tryd.prog Tryd.X 14 [.agg (ledCV l), .int .i64 F, .int .i64 T, .int .i64 n] (.tup [.agg (ledCV M), .int .i64 e])) :
    QCalls Tryd.prog Tryd.X 6 [.agg (ledCV l), .int .i64 F, .int .i64 T, .int .i64 n] (.bool true) := by
  have hB := books_calls
  refine QCalls.of Tryd.func6 rfl (fun args w => Tryd.call6 args w) (Nat.le_of_ble_eq_true rfl) [(0, .c (.agg (ledCV l))), (1, .c (.int .i64 F)), (2, .c (.int .i64 T)), (3, .c (.int .i64 n))] rfl fun β hβ => ?_; have hf := Tryd.func6
  repeat' (first | refine st ?_ | (refine AK.condS rfl (fun h => ?_) (fun h => ?_) <;> first | (cases h; done) | rw [h] | skip) | refine uW hf rfl rfl ?_ | refine AK.skip ?_ | refine AK.seq ?_ | refine AK.block ?_ | refine AOps.box kn rfl rfl rfl rfl (led_box _) rfl ?_ | refine AOps.indexP Tryd.hX kn rfl rfl rfl rfl rfl rfl rfl rfl rfl (by first | assumption | exact rfl) ?_ | refine AOps.loadB Tryd.hX kn rfl rfl rfl rfl rfl rfl rfl (aload_led (by assumption) rfl rfl) ?_ | refine AOps.loadB Tryd.hX kn rfl rfl rfl rfl rfl rfl (by assumption) (by rfl) ?_ | refine AOps.store Tryd.hX kn rfl rfl rfl rfl rfl rfl rfl (led_box _) (led_beq (by assumption) rfl) (led_write (by assumption) rfl) rfl ?_ | refine AOps.callq kn rfl rfl rfl (caps_ledc rfl rfl) hq ?_ | refine AOps.callq kn rfl rfl rfl (caps_led rfl) hg ?_ | refine uC rfl hB ?_ | ((first | refine AOps.splitT rfl rfl rfl asm (fun h => ?_) | refine AOps.splitF rfl rfl rfl asm (fun h => ?_) | refine AOps.split rfl rfl rfl (fun h => ?_) (fun h => ?_)) <;> (fail_if_success (cases h; done)) <;> rw [h]))
  all_goals exact Wk.refl _

set_option maxHeartbeats 0 in
set_option maxRecDepth 100000 in
theorem Keeps_no (l : Led) (h12 : l.accs.length = 12) (F T n e : Int) (he : e ≠ 0) (hg : QCalls Tryd.prog Tryd.X 15 [.agg (ledCV l)] (.bool true))
    (hq : QCalls Tryd.prog Tryd.X 14 [.agg (ledCV l), .int .i64 F, .int .i64 T, .int .i64 n] (.tup [.agg (ledCV l), .int .i64 e])) :
    QCalls Tryd.prog Tryd.X 6 [.agg (ledCV l), .int .i64 F, .int .i64 T, .int .i64 n] (.bool true) := by
  have hB := books_calls
  have e1 : (e != 0) = true := by simpa using he
  obtain ⟨a, ha⟩ : ∃ a, l.accs[0]? = some a := ⟨l.accs[0]'(by omega), by simp⟩
  obtain ⟨r, d0⟩ := led_bal h12 ha
  have d1 : dropN 1 (ledAV l) = some (.c (.int .i64 a.bal) :: r) := d0
  refine QCalls.of Tryd.func6 rfl (fun args w => Tryd.call6 args w) (Nat.le_of_ble_eq_true rfl) [(0, .c (.agg (ledCV l))), (1, .c (.int .i64 F)), (2, .c (.int .i64 T)), (3, .c (.int .i64 n))] rfl fun β hβ => ?_; have hf := Tryd.func6
  repeat' (first | refine st ?_ | (refine AK.condS rfl (fun h => ?_) (fun h => ?_) <;> first | (cases h; done) | rw [h] | skip) | refine uW hf rfl rfl ?_ | refine AK.skip ?_ | refine AK.seq ?_ | refine AK.block ?_ | refine AOps.box kn rfl rfl rfl rfl (led_box _) rfl ?_ | refine AOps.indexP Tryd.hX kn rfl rfl rfl rfl rfl rfl rfl rfl rfl (by first | assumption | exact rfl) ?_ | refine AOps.loadB Tryd.hX kn rfl rfl rfl rfl rfl rfl rfl (aload_led (by assumption) rfl rfl) ?_ | refine AOps.loadB Tryd.hX kn rfl rfl rfl rfl rfl rfl (by assumption) (by rfl) ?_ | refine AOps.store Tryd.hX kn rfl rfl rfl rfl rfl rfl rfl (led_box _) (led_beq (by assumption) rfl) (led_write (by assumption) rfl) rfl ?_ | refine AOps.callq kn rfl rfl rfl (caps_ledc rfl rfl) hq ?_ | refine AOps.callq kn rfl rfl rfl (caps_led rfl) hg ?_ | refine uC rfl hB ?_ | ((first | refine AOps.splitT rfl rfl rfl asm (fun h => ?_) | refine AOps.splitF rfl rfl rfl asm (fun h => ?_) | refine AOps.split rfl rfl rfl (fun h => ?_) (fun h => ?_)) <;> (fail_if_success (cases h; done)) <;> rw [h]))
  all_goals exact Wk.of_eq (congrArg CV.bool (by simp))

set_option maxHeartbeats 0 in
set_option maxRecDepth 100000 in
theorem Keeps_ok (l M N : Led) (h12 : l.accs.length = 12) (hM : M.accs.length = 12) (hN : N.accs.length = 12) (i j : Nat) (li : Nat.blt i 12 = true) (lj : Nat.blt j 12 = true) (n s x y z : Int) (r1 r2 r3 r4 r5 : List AV)
    (hg : QCalls Tryd.prog Tryd.X 15 [.agg (ledCV l)] (.bool true)) (hgM : QCalls Tryd.prog Tryd.X 15 [.agg (ledCV M)] (.bool true))
    (hq : QCalls Tryd.prog Tryd.X 14 [.agg (ledCV l), .int .i64 i, .int .i64 j, .int .i64 n] (.tup [.agg (ledCV M), .int .i64 0]))
    (hq2 : QCalls Tryd.prog Tryd.X 14 [.agg (ledCV M), .int .i64 j, .int .i64 i, .int .i64 n] (.tup [.agg (ledCV N), .int .i64 0]))
    (hs1 : QCalls Tryd.prog Tryd.X 17 [.agg (ledCV M)] (.int .i64 s)) (hs2 : QCalls Tryd.prog Tryd.X 17 [.agg (ledCV l)] (.int .i64 s))
    (d1 : dropN (0 + i * 15 + 1) (ledAV l) = some (.c (.int .i64 x) :: r1)) (d2 : dropN (0 + j * 15 + 1) (ledAV l) = some (.c (.int .i64 y) :: r2))
    (d3 : dropN (0 + i * 15 + 1) (ledAV N) = some (.c (.int .i64 x) :: r3)) (d4 : dropN (0 + j * 15 + 1) (ledAV N) = some (.c (.int .i64 y) :: r4))
    (d5 : dropN (0 + j * 15 + 1) (ledAV M) = some (.c (.int .i64 z) :: r5)) (hv : i = j ∨ IntKind.i64.wrap (z - y) = n) :
    QCalls Tryd.prog Tryd.X 6 [.agg (ledCV l), .int .i64 i, .int .i64 j, .int .i64 n] (.bool true) := by
  have hB := books_calls
  have q1 : (s == s) = true := beq_self_eq_true s
  have q2 : (x == x) = true := beq_self_eq_true x
  have q3 : (y == y) = true := beq_self_eq_true y
  by_cases hij : i = j
  · have v1 : ((i : Int) == (j : Int)) = true := by rw [hij]; exact beq_self_eq_true _
    refine QCalls.of Tryd.func6 rfl (fun args w => Tryd.call6 args w) (Nat.le_of_ble_eq_true rfl) [(0, .c (.agg (ledCV l))), (1, .c (.int .i64 i)), (2, .c (.int .i64 j)), (3, .c (.int .i64 n))] rfl fun β hβ => ?_; have hf := Tryd.func6
    repeat' (first | refine st ?_ | (refine AK.condS rfl (fun h => ?_) (fun h => ?_) <;> first | (cases h; done) | rw [h] | skip) | refine uW hf rfl rfl ?_ | refine AK.skip ?_ | refine AK.seq ?_ | refine AK.block ?_ | refine AOps.box kn rfl rfl rfl rfl (led_box _) rfl ?_ | refine AOps.indexP Tryd.hX kn rfl rfl rfl rfl rfl rfl rfl rfl rfl (by first | assumption | exact rfl) ?_ | refine AOps.loadB Tryd.hX kn rfl rfl rfl rfl rfl rfl rfl (aload_led (by assumption) rfl rfl) ?_ | refine AOps.loadB Tryd.hX kn rfl rfl rfl rfl rfl rfl (by assumption) (by rfl) ?_ | refine AOps.store Tryd.hX kn rfl rfl rfl rfl rfl rfl rfl (led_box _) (led_beq (by assumption) rfl) (led_write (by assumption) rfl) rfl ?_ | refine AOps.callq kn rfl rfl rfl (caps_ledc rfl rfl) hq ?_ | refine AOps.callq kn rfl rfl rfl (caps_ledc rfl rfl) hq2 ?_ | refine AOps.callq kn rfl rfl rfl (caps_led rfl) hg ?_ | refine AOps.callq kn rfl rfl rfl (caps_led rfl) hgM ?_ | refine AOps.callq kn rfl rfl rfl (caps_led rfl) hs1 ?_ | refine AOps.callq kn rfl rfl rfl (caps_led rfl) hs2 ?_ | refine uC rfl hB ?_ | ((first | refine AOps.splitT rfl rfl rfl asm (fun h => ?_) | refine AOps.splitF rfl rfl rfl asm (fun h => ?_) | refine AOps.split rfl rfl rfl (fun h => ?_) (fun h => ?_)) <;> (fail_if_success (cases h; done)) <;> rw [h]))
    all_goals exact Wk.of_eq (congrArg CV.bool (by simp_all))
  · have v1 : ((i : Int) == (j : Int)) = false := by rw [beq_eq_false_iff_ne]; omega
    have v2 : (IntKind.i64.wrap (z - y) == n) = true := by rw [beq_iff_eq]; rcases hv with h | h; exact absurd h hij; exact h
    refine QCalls.of Tryd.func6 rfl (fun args w => Tryd.call6 args w) (Nat.le_of_ble_eq_true rfl) [(0, .c (.agg (ledCV l))), (1, .c (.int .i64 i)), (2, .c (.int .i64 j)), (3, .c (.int .i64 n))] rfl fun β hβ => ?_; have hf := Tryd.func6
    repeat' (first | refine st ?_ | (refine AK.condS rfl (fun h => ?_) (fun h => ?_) <;> first | (cases h; done) | rw [h] | skip) | refine uW hf rfl rfl ?_ | refine AK.skip ?_ | refine AK.seq ?_ | refine AK.block ?_ | refine AOps.box kn rfl rfl rfl rfl (led_box _) rfl ?_ | refine AOps.indexP Tryd.hX kn rfl rfl rfl rfl rfl rfl rfl rfl rfl (by first | assumption | exact rfl) ?_ | refine AOps.loadB Tryd.hX kn rfl rfl rfl rfl rfl rfl rfl (aload_led (by assumption) rfl rfl) ?_ | refine AOps.loadB Tryd.hX kn rfl rfl rfl rfl rfl rfl (by assumption) (by rfl) ?_ | refine AOps.store Tryd.hX kn rfl rfl rfl rfl rfl rfl rfl (led_box _) (led_beq (by assumption) rfl) (led_write (by assumption) rfl) rfl ?_ | refine AOps.callq kn rfl rfl rfl (caps_ledc rfl rfl) hq ?_ | refine AOps.callq kn rfl rfl rfl (caps_ledc rfl rfl) hq2 ?_ | refine AOps.callq kn rfl rfl rfl (caps_led rfl) hg ?_ | refine AOps.callq kn rfl rfl rfl (caps_led rfl) hgM ?_ | refine AOps.callq kn rfl rfl rfl (caps_led rfl) hs1 ?_ | refine AOps.callq kn rfl rfl rfl (caps_led rfl) hs2 ?_ | refine uC rfl hB ?_ | ((first | refine AOps.splitT rfl rfl rfl asm (fun h => ?_) | refine AOps.splitF rfl rfl rfl asm (fun h => ?_) | refine AOps.split rfl rfl rfl (fun h => ?_) (fun h => ?_)) <;> (fail_if_success (cases h; done)) <;> rw [h]))
    all_goals exact Wk.of_eq (congrArg CV.bool (by simp_all))
end Go.Proofs

set_option linter.unusedVariables false
set_option linter.unusedSimpArgs false
namespace Go.Proofs
open Go.Abs
theorem LedgerKeeps_led (l : Led) (h12 : l.accs.length = 12) (hs : ∀ a ∈ l.accs, accSize a ≤ 1048570) (F T n : Int) :
    QCalls Tryd.prog Tryd.X 6 [.agg (ledCV l), .int .i64 F, .int .i64 T, .int .i64 n] (.bool true) := by
  have hG := Good_step l h12 hs
  by_cases hok : ∃ (i j : Nat) (aF aT : Acc), F = i ∧ T = j ∧ l.accs[i]? = some aF ∧ l.accs[j]? = some aT ∧ aF.is ≠ 0 ∧ aT.is ≠ 0 ∧ 0 ≤ n ∧ n ≤ 1152921504606846976 ∧ n ≤ aF.bal
  rotate_left
  · obtain ⟨e, he, hq⟩ := Move_no l h12 F T n (fun i j aF aT e1 e2 e3 e4 e5 e6 e7 e8 e9 => hok ⟨i, j, aF, aT, e1, e2, e3, e4, e5, e6, e7, e8, e9⟩)
    cases hg : lGood l with
    | false => rw [hg] at hG; exact Keeps_bad l l h12 h12 F T n e hG hq
    | true => rw [hg] at hG; exact Keeps_no l h12 F T n e he hG hq
  obtain ⟨i, j, aF, aT, rfl, rfl, haF, haT, isF, isT, h0, hM, hb⟩ := hok
  have len1 : ∀ (L : Led) (k : Nat) (z : Int), L.accs.length = 12 → (L.setBal k z).accs.length = 12 := fun L k z h => by show (setB L.accs k z).length = 12; rw [setB_len]; exact h
  have lt : ∀ {L : Led} {k : Nat} {a : Acc}, L.accs.length = 12 → L.accs[k]? = some a → Nat.blt k 12 = true := fun h12 h => by
    rw [Nat.blt_eq]; have := (List.getElem?_eq_some_iff.1 h).1; omega
  cases hg : lGood l with
  | false =>
    rw [hg] at hG
    have h1 := len1 l i (IntKind.i64.wrap (aF.bal - n)) h12
    obtain ⟨aT', haT'⟩ : ∃ a, (l.setBal i (IntKind.i64.wrap (aF.bal - n))).accs[j]? = some a := ⟨_, List.getElem?_eq_getElem (by rw [h1]; have := (List.getElem?_eq_some_iff.1 haT).1; omega)⟩
    have h2 := len1 _ j (IntKind.i64.wrap (aT'.bal + n)) h1
    exact Keeps_bad l _ h12 h2 i j n 0 hG (Move_ok l h12 i j aF aT aT' haF haT n haT' h1 h2 isF isT h0 hM hb)
  | true =>
    rw [hg] at hG
    obtain ⟨bF, aT', haT', eT', isT', b0, b1, gM, sM⟩ := move_good hg haF haT isF isT h0 hb
    have w1 : IntKind.i64.wrap (aF.bal - n) = aF.bal - n := w64 (by omega) (by omega)
    have w2 : IntKind.i64.wrap (aT'.bal + n) = aT'.bal + n := w64 (by omega) (by omega)
    have h1 := len1 l i (aF.bal - n) h12
    have h2 := len1 _ j (aT'.bal + n) h1
    have hq := Move_ok l h12 i j aF aT aT' haF haT n (by rw [w1]; exact haT') (by rw [w1]; exact h1) (by rw [w1, w2]; exact h2) isF isT h0 hM hb
    rw [w1, w2] at hq
    have hsM : ∀ a ∈ ((l.setBal i (aF.bal - n)).setBal j (aT'.bal + n)).accs, accSize a ≤ 1048570 := setB_size _ _ _ (setB_size _ _ _ hs)
    have hGM := Good_step _ h2 hsM
    rw [gM] at hGM
    have m1 : ((l.setBal i (aF.bal - n)).setBal j (aT'.bal + n)).accs[j]? = some (aT'.setBal (aT'.bal + n)) := by
      show (setB (l.setBal i (aF.bal - n)).accs j (aT'.bal + n))[j]? = _
      rw [setB_get, if_pos rfl, haT']; rfl
    have m2 : ∃ b, ((l.setBal i (aF.bal - n)).setBal j (aT'.bal + n)).accs[i]? = some b ∧ b.is ≠ 0 ∧ (j ≠ i → b.bal = aF.bal - n) := by
      by_cases hij : j = i
      · subst hij; exact ⟨_, m1, isT', fun h => absurd rfl h⟩
      · refine ⟨aF.setBal (aF.bal - n), ?_, isF, fun _ => rfl⟩
        show (setB (setB l.accs i (aF.bal - n)) j (aT'.bal + n))[i]? = _
        rw [setB_get, if_neg hij, setB_get, if_pos rfl, haF]; rfl
    obtain ⟨b2, m2, is2, eb2⟩ := m2
    have ez : (aT'.setBal (aT'.bal + n)).bal = aT'.bal + n := rfl
    obtain ⟨cF, b2', m3, e3, is3, c0, c1, gN, sN⟩ := move_good gM m1 m2 isT' is2 h0 (by rw [ez]; omega)
    rw [ez] at m3 e3 gN sN
    have w3 : IntKind.i64.wrap (aT'.bal + n - n) = aT'.bal + n - n := w64 (by omega) (by omega)
    have w4 : IntKind.i64.wrap (b2'.bal + n) = b2'.bal + n := w64 (by omega) (by omega)
    have h3 := len1 _ j (aT'.bal + n - n) h2
    have h4 := len1 _ i (b2'.bal + n) h3
    have hq2 := Move_ok _ h2 j i (aT'.setBal (aT'.bal + n)) b2 b2' m1 m2 n (by rw [ez, w3]; exact m3) (by rw [ez, w3]; exact h3) (by rw [ez, w3, w4]; exact h4) isT' is2 h0 hM (by rw [ez]; omega)
    rw [ez, w3, w4] at hq2
    have n1 : ((((l.setBal i (aF.bal - n)).setBal j (aT'.bal + n)).setBal j (aT'.bal + n - n)).setBal i (b2'.bal + n)).accs[i]? = some (b2'.setBal (b2'.bal + n)) := by
      show (setB _ i (b2'.bal + n))[i]? = _
      rw [setB_get, if_pos rfl, m3]; rfl
    have n2 : ∃ c, ((((l.setBal i (aF.bal - n)).setBal j (aT'.bal + n)).setBal j (aT'.bal + n - n)).setBal i (b2'.bal + n)).accs[j]? = some c ∧ c.bal = aT.bal := by
      by_cases hij : i = j
      · subst hij
        obtain rfl : aF = aT := by rw [haF] at haT; exact Option.some.inj haT
        rw [if_pos rfl] at e3 eT'
        exact ⟨_, n1, by show b2'.bal + n = _; omega⟩
      · rw [if_neg hij] at eT'
        refine ⟨(aT'.setBal (aT'.bal + n)).setBal (aT'.bal + n - n), ?_, by show aT'.bal + n - n = _; omega⟩
        show (setB (setB ((l.setBal i (aF.bal - n)).setBal j (aT'.bal + n)).accs j (aT'.bal + n - n)) i (b2'.bal + n))[j]? = _
        rw [setB_get, if_neg hij, setB_get, if_pos rfl, m1]; rfl
    obtain ⟨c2, n2, ec2⟩ := n2
    have ex : (b2'.setBal (b2'.bal + n)).bal = aF.bal := by
      show b2'.bal + n = aF.bal
      by_cases hij : j = i
      · subst hij; rw [if_pos rfl] at e3 eT'; omega
      · rw [if_neg hij] at e3; rw [e3, eb2 hij]; omega
    obtain ⟨r1, d1⟩ := led_bal h12 haF
    obtain ⟨r2, d2⟩ := led_bal h12 haT
    obtain ⟨r3, d3⟩ := led_bal h4 n1
    obtain ⟨r4, d4⟩ := led_bal h4 n2
    obtain ⟨r5, d5⟩ := led_bal h2 m1
    rw [ex] at d3
    rw [ec2] at d4
    rw [ez] at d5
    obtain ⟨g1, g2, _⟩ := lGood_iff.1 hg
    obtain ⟨g3, g4, _⟩ := lGood_iff.1 gM
    have s2 := Sum_calls l h12 g1 (gAccs_bal _ _ g2)
    have s1 := Sum_calls _ h2 g3 (gAccs_bal _ _ g4)
    rw [sM] at s1
    refine Keeps_ok l _ _ h12 h2 h4 i j (lt h12 haF) (lt h12 haT) n (lSum l) aF.bal aT.bal (aT'.bal + n) r1 r2 r3 r4 r5 hG hGM hq hq2 s1 s2 d1 d2 d3 d4 d5 ?_
    by_cases hij : i = j
    · exact .inl hij
    · rw [if_neg hij] at eT'
      exact .inr (by rw [w64 (by omega) (by omega)]; omega)
theorem LedgerKeeps_calls (l : Led) (h12 : l.accs.length = 12) (hs : ∀ a ∈ l.accs, accSize a ≤ 1048570) (F : Int) {p : Prop} (_ : p) (T : Int) {q : Prop} (_ : q) (n : Int) {r : Prop} (_ : r) :
    QCalls Tryd.prog Tryd.X 6 [.agg (ledCV l), .int .i64 F, .int .i64 T, .int .i64 n] (.bool true) := LedgerKeeps_led l h12 hs F T n
end Go.Proofs

set_option linter.unusedVariables false
set_option linter.unusedSimpArgs false
namespace Go.Proofs
open Go.Abs Go.ChangeShapes Go.WideShapes Go.ChangeAt Go.RowKit

theorem bulkAll_sum {H : Type} : ∀ (l : List (DataW H)), (l.map YtjajbnmfcjcaiaaDoor.Rows.uptoBulk).sum = YtjajbnmfcjcaiaaDoor.Rows.uptoBulkAll l
  | [] => rfl
  | d :: l => by simp only [List.map_cons, List.sum_cons, YtjajbnmfcjcaiaaDoor.Rows.uptoBulkAll, bulkAll_sum l]

theorem bulkOk {H : Type} : BulkOk (H := H) YtjajbnmfcjcaiaaDoor.Rows.uptoBulk where
  lit := fun l => by cases l <;> simp [YtjajbnmfcjcaiaaDoor.Rows.uptoBulk]
  str := fun s => by simp [YtjajbnmfcjcaiaaDoor.Rows.uptoBulk]
  nil := by simp [YtjajbnmfcjcaiaaDoor.Rows.uptoBulk]
  slice := fun l r => by rw [bulkAll_sum]; simp only [YtjajbnmfcjcaiaaDoor.Rows.uptoBulk]; omega
  agg := fun l => by rw [bulkAll_sum]; simp only [YtjajbnmfcjcaiaaDoor.Rows.uptoBulk]; omega

def RTy : CV → Nat → Prop := fun c m => ∃ t : Ty, c = encTy t ∧ tyWf t ∧ tySize t ≤ m
def RNd : CV → Nat → Prop := fun c m => ∃ t : Nd, c = encNd t ∧ ndWf t ∧ ndSize t ≤ m
def RVl : CV → Nat → Prop := fun c m => ∃ t : Vl, c = encVl t ∧ vlWf t ∧ vlSize t ≤ m

theorem rows_tys : ∀ {rows : List CV} {m : Nat}, RowsR RTy rows m → ∃ l : List Ty, rows = encTys l ∧ tysWf l ∧ tysSize l ≤ m
  | [], m, _ => ⟨[], rfl, trivial, by simp [tysSize]⟩
  | r :: rows, m, ⟨k, m', ⟨t, h1, h2, h3⟩, h4, h5⟩ => by
    obtain ⟨l, e1, e2, e3⟩ := rows_tys h4
    exact ⟨t :: l, by rw [h1, e1]; rfl, ⟨h2, e2⟩, by simp only [tysSize]; omega⟩
theorem rows_nds : ∀ {rows : List CV} {m : Nat}, RowsR RNd rows m → ∃ l : List Nd, rows = encNds l ∧ ndsWf l ∧ ndsSize l ≤ m
  | [], m, _ => ⟨[], rfl, trivial, by simp [ndsSize]⟩
  | r :: rows, m, ⟨k, m', ⟨t, h1, h2, h3⟩, h4, h5⟩ => by
    obtain ⟨l, e1, e2, e3⟩ := rows_nds h4
    exact ⟨t :: l, by rw [h1, e1]; rfl, ⟨h2, e2⟩, by simp only [ndsSize]; omega⟩
theorem rows_vls : ∀ {rows : List CV} {m : Nat}, RowsR RVl rows m → ∃ l : List Vl, rows = encVls l ∧ vlsWf l ∧ vlsSize l ≤ m
  | [], m, _ => ⟨[], rfl, trivial, by simp [vlsSize]⟩
  | r :: rows, m, ⟨k, m', ⟨t, h1, h2, h3⟩, h4, h5⟩ => by
    obtain ⟨l, e1, e2, e3⟩ := rows_vls h4
    exact ⟨t :: l, by rw [h1, e1]; rfl, ⟨h2, e2⟩, by simp only [vlsSize]; omega⟩

abbrev Rint : CV → Nat → Prop := fun c k => ∃ z, c = .int .i64 z ∧ (Lit.int .i64 z).wf = true ∧ 1 ≤ k
abbrev Rstr : CV → Nat → Prop := fun c k => ∃ s, c = .str s ∧ s.length + 1 ≤ k
abbrev Rsl (s : Nat) (R : CV → Nat → Prop) : CV → Nat → Prop := fun c k => ∃ rows, c = .sl s rows ∧ ∃ m', RowsR R rows m' ∧ m' + 1 ≤ k

theorem cells_int : Tryd.prog.cellsOf 3 = 1 := by kernel_rfl
theorem cells_str : Tryd.prog.cellsOf 9 = 1 := by kernel_rfl
theorem cells_tys : Tryd.prog.cellsOf 25 = 1 := by kernel_rfl
theorem cells_nds : Tryd.prog.cellsOf 22 = 1 := by kernel_rfl
theorem cells_vls : Tryd.prog.cellsOf 42 = 1 := by kernel_rfl
theorem cells_ty : Tryd.prog.cellsOf 41 = 2 := by kernel_rfl
theorem cells_nd : Tryd.prog.cellsOf 24 = 5 := by kernel_rfl
theorem cells_vl : Tryd.prog.cellsOf 44 = 7 := by kernel_rfl

section
variable {H : Type} {enc : TypeId × Value → H} {W : World}

theorem rdSl {m e t s : Nat} {R : CV → Nat → Prop} (hu : Tryd.prog.underlying t = some (.slice e)) (hs : Tryd.prog.cellsOf e = s) (h0 : 0 < s) (h : ∀ k, k < m → RD enc Tryd.prog W YtjajbnmfcjcaiaaDoor.Rows.uptoBulk k e R) :
    RD (H := H) enc Tryd.prog W YtjajbnmfcjcaiaaDoor.Rows.uptoBulk m t (Rsl s R) := by
  cases m with
  | zero => exact RD.zero
  | succ k => exact RD.slice bulkOk hu hs h0 (h k (by omega))

theorem rdTy : ∀ (n m : Nat), m ≤ n → RD (H := H) enc Tryd.prog W YtjajbnmfcjcaiaaDoor.Rows.uptoBulk m 41 RTy
  | 0, m, hm => by obtain rfl : m = 0 := by omega
                   exact RD.zero
  | n + 1, 0, _ => RD.zero
  | n + 1, m + 1, hm => by
    refine RD.mono (RD.struct bulkOk Tryd.underlying41 rfl (Rs := [Rint, Rsl 2 RTy]) (fun k hk => ?_) ?_) (Nat.le_refl _) ?_
    · exact ⟨_, _, rfl, rfl, RD.int bulkOk Tryd.underlying3, _, _, rfl, by rw [cells_int], rdSl Tryd.underlying25 cells_ty (by decide) (fun q hq => rdTy n q (by omega)), rfl⟩
    · simp only [List.map, fieldsEnd, cells_int, cells_tys, cells_ty]
    · rintro c k ⟨l, rfl, m', hF, hle⟩
      obtain ⟨c1, k1, l1, m1, rfl, ⟨z, rfl, hz, _⟩, ⟨c2, k2, l2, m2, rfl, ⟨rows, rfl, m3, hr, h3⟩, rfl, h4⟩, h5⟩ := hF
      obtain ⟨tl, rfl, e2, e3⟩ := rows_tys hr
      exact ⟨.mk z tl, rfl, ⟨bounds_i64 hz, e2⟩, by simp only [tySize]; omega⟩

theorem rdNd : ∀ (n m : Nat), m ≤ n → RD (H := H) enc Tryd.prog W YtjajbnmfcjcaiaaDoor.Rows.uptoBulk m 24 RNd
  | 0, m, hm => by obtain rfl : m = 0 := by omega
                   exact RD.zero
  | n + 1, 0, _ => RD.zero
  | n + 1, m + 1, hm => by
    refine RD.mono (RD.struct bulkOk Tryd.underlying24 rfl (Rs := [Rint, Rint, Rint, Rstr, Rsl 5 RNd]) (fun k hk => ?_) ?_) (Nat.le_refl _) ?_
    · exact ⟨_, _, rfl, rfl, RD.int bulkOk Tryd.underlying3, _, _, rfl, by rw [cells_int], RD.int bulkOk Tryd.underlying3, _, _, rfl, by rw [cells_int], RD.int bulkOk Tryd.underlying3,
        _, _, rfl, by rw [cells_int], RD.str bulkOk Tryd.underlying9, _, _, rfl, by rw [cells_int, cells_str], rdSl Tryd.underlying22 cells_nd (by decide) (fun q hq => rdNd n q (by omega)), rfl⟩
    · simp only [List.map, fieldsEnd, cells_int, cells_str, cells_nds, cells_nd]
    · rintro c k ⟨l, rfl, m', hF, hle⟩
      obtain ⟨c1, k1, l1, m1, rfl, ⟨z, rfl, hz, _⟩, ⟨c2, k2, l2, m2, rfl, ⟨z2, rfl, hz2, _⟩, ⟨c3, k3, l3, m3, rfl, ⟨z3, rfl, hz3, _⟩, ⟨c4, k4, l4, m4, rfl, ⟨s, rfl, hs⟩, ⟨c5, k5, l5, m5, rfl, ⟨rows, rfl, m6, hr, h6⟩, rfl, h7⟩, h8⟩, h9⟩, h10⟩, h11⟩ := hF
      obtain ⟨tl, rfl, e2, e3⟩ := rows_nds hr
      exact ⟨.mk z z2 z3 s tl, rfl, ⟨bounds_i64 hz, bounds_i64 hz2, bounds_i64 hz3, e2⟩, by simp only [ndSize]; omega⟩

theorem rdVl : ∀ (n m : Nat), m ≤ n → RD (H := H) enc Tryd.prog W YtjajbnmfcjcaiaaDoor.Rows.uptoBulk m 44 RVl
  | 0, m, hm => by obtain rfl : m = 0 := by omega
                   exact RD.zero
  | n + 1, 0, _ => RD.zero
  | n + 1, m + 1, hm => by
    refine RD.mono (RD.struct bulkOk Tryd.underlying44 rfl (Rs := [Rint, Rint, Rint, Rstr, Rsl 7 RVl, Rsl 2 RTy, Rsl 5 RNd]) (fun k hk => ?_) ?_) (Nat.le_refl _) ?_
    · exact ⟨_, _, rfl, rfl, RD.int bulkOk Tryd.underlying3, _, _, rfl, by rw [cells_int], RD.int bulkOk Tryd.underlying3, _, _, rfl, by rw [cells_int], RD.int bulkOk Tryd.underlying3,
        _, _, rfl, by rw [cells_int], RD.str bulkOk Tryd.underlying9, _, _, rfl, by rw [cells_int, cells_str], rdSl Tryd.underlying42 cells_vl (by decide) (fun q hq => rdVl n q (by omega)),
        _, _, rfl, by rw [cells_int, cells_str, cells_vls], rdSl Tryd.underlying25 cells_ty (by decide) (fun q hq => rdTy q q (Nat.le_refl _)),
        _, _, rfl, by rw [cells_int, cells_str, cells_vls, cells_tys], rdSl Tryd.underlying22 cells_nd (by decide) (fun q hq => rdNd q q (Nat.le_refl _)), rfl⟩
    · simp only [List.map, fieldsEnd, cells_int, cells_str, cells_vls, cells_tys, cells_nds, cells_vl]
    · rintro c k ⟨l, rfl, m', hF, hle⟩
      obtain ⟨c1, k1, l1, m1, rfl, ⟨z, rfl, hz, _⟩, ⟨c2, k2, l2, m2, rfl, ⟨z2, rfl, hz2, _⟩, ⟨c3, k3, l3, m3, rfl, ⟨z3, rfl, hz3, _⟩, ⟨c4, k4, l4, m4, rfl, ⟨s, rfl, hs⟩, ⟨c5, k5, l5, m5, rfl, ⟨rows, rfl, m6, hr, h6⟩,
        ⟨c6, k6, l6, m7, rfl, ⟨rows2, rfl, m8, hr2, g6⟩, ⟨c7, k7, l7, m9, rfl, ⟨rows3, rfl, m10, hr3, g7⟩, rfl, g8⟩, g9⟩, h7⟩, h8⟩, h9⟩, h10⟩, h11⟩ := hF
      obtain ⟨tl, rfl, e2, e3⟩ := rows_vls hr
      obtain ⟨tl2, rfl, f2, f3⟩ := rows_tys hr2
      obtain ⟨tl3, rfl, q2, q3⟩ := rows_nds hr3
      exact ⟨.mk z z2 z3 s tl tl2 tl3, rfl, ⟨bounds_i64 hz, bounds_i64 hz2, bounds_i64 hz3, e2, f2, q2⟩, by simp only [vlSize]; omega⟩

end
end Go.Proofs

set_option linter.unusedVariables false
set_option linter.unusedSimpArgs false
namespace Go.Proofs
open Go.Abs Go.ChangeShapes Go.WideShapes Go.ChangeAt Go.RowKit
def RAc : CV → Nat → Prop := fun c k => ∃ a : Acc, c = .agg (encA a) ∧ accSize a + 5 ≤ k
def RLed : CV → Nat → Prop := fun c k => ∃ l : Led, c = .agg (ledCV l) ∧ l.accs.length = 12 ∧ ∀ a ∈ l.accs, accSize a + 8 ≤ k
theorem elems_accs : ∀ (n : Nat) {l : List CV} {m : Nat}, ElemsR RAc n l m → ∃ accs : List Acc, accs.length = n ∧ l = encAs accs ∧ ∀ a ∈ accs, accSize a + 5 ≤ m
  | 0, l, m, h => ⟨[], rfl, h, fun a ha => by simp at ha⟩
  | n + 1, l, m, ⟨c, k, l', m', h1, ⟨a, h2, h3⟩, h4, h5⟩ => by
    obtain ⟨accs, e1, e2, e3⟩ := elems_accs n h4
    refine ⟨a :: accs, by simp [e1], by rw [h1, h2, e2]; rfl, fun b hb => ?_⟩
    rcases List.mem_cons.1 hb with rfl | hb
    · omega
    · have := e3 b hb; omega
theorem cells_acc : Tryd.prog.cellsOf 46 = 15 := by kernel_rfl
theorem cells_accs : Tryd.prog.cellsOf 47 = 180 := by kernel_rfl
theorem cells_led : Tryd.prog.cellsOf 49 = 181 := by kernel_rfl
section
variable {H : Type} {enc : TypeId × Value → H} {W : World}
theorem rdAcc (m : Nat) : RD (H := H) enc Tryd.prog W YtjajbnmfcjcaiaaDoor.Rows.uptoBulk m 46 RAc := by
  cases m with
  | zero => exact RD.zero
  | succ m =>
    refine RD.mono (RD.struct bulkOk Tryd.underlying46 rfl (Rs := [Rint, Rint, Rint, RTy, RTy, Rsl 5 RNd, RVl]) (fun k hk => ?_) ?_) (Nat.le_refl _) ?_
    · exact ⟨_, _, rfl, rfl, RD.int bulkOk Tryd.underlying3, _, _, rfl, by rw [cells_int], RD.int bulkOk Tryd.underlying3, _, _, rfl, by rw [cells_int], RD.int bulkOk Tryd.underlying3,
        _, _, rfl, by rw [cells_int], rdTy k k (Nat.le_refl _), _, _, rfl, by rw [cells_int, cells_ty], rdTy k k (Nat.le_refl _), _, _, rfl, by rw [cells_int, cells_ty],
        rdSl Tryd.underlying22 cells_nd (by decide) (fun q hq => rdNd q q (Nat.le_refl _)), _, _, rfl, by rw [cells_int, cells_ty, cells_nds], rdVl k k (Nat.le_refl _), rfl⟩
    · simp only [List.map, fieldsEnd, cells_int, cells_ty, cells_nds, cells_vl, cells_acc]
    · rintro c k ⟨l, rfl, m', hF, hle⟩
      obtain ⟨c1, k1, l1, m1, rfl, ⟨z1, rfl, _, g1⟩, ⟨c2, k2, l2, m2, rfl, ⟨z2, rfl, _, g2⟩, ⟨c3, k3, l3, m3, rfl, ⟨z3, rfl, _, g3⟩, ⟨c4, k4, l4, m4, rfl, ⟨t1, rfl, _, g4⟩, ⟨c5, k5, l5, m5, rfl, ⟨t2, rfl, _, g5⟩,
        ⟨c6, k6, l6, m6, rfl, ⟨rows, rfl, m7, hr, g6⟩, ⟨c7, k7, l7, m8, rfl, ⟨v, rfl, _, g7⟩, rfl, g8⟩, g9⟩, g10⟩, g11⟩, g12⟩, g13⟩, g14⟩ := hF
      obtain ⟨ns, rfl, _, e3⟩ := rows_nds hr
      refine ⟨⟨z1, z2, z3, t1, t2, ns, v⟩, ?_, by simp only [accSize]; omega⟩
      cases t1; cases t2; cases v; rfl
theorem rdLed (m : Nat) : RD (H := H) enc Tryd.prog W YtjajbnmfcjcaiaaDoor.Rows.uptoBulk m 49 RLed := by
  cases m with
  | zero => exact RD.zero
  | succ m =>
    refine RD.mono (RD.struct bulkOk Tryd.underlying49 rfl (Rs := [fun c m => ∃ l, c = .agg l ∧ ∃ m', ElemsR RAc 12 l m' ∧ m' + 1 ≤ m, Rint]) (fun k hk => ?_) ?_) (Nat.le_refl _) ?_
    · refine ⟨_, _, rfl, rfl, ?_, _, _, rfl, by rw [cells_accs], RD.int bulkOk Tryd.underlying3, rfl⟩
      cases k with
      | zero => exact RD.zero
      | succ k => exact RD.array bulkOk Tryd.underlying47 (by rw [cells_accs, cells_acc]) (rdAcc k)
    · simp only [List.map, fieldsEnd, cells_int, cells_accs, cells_led]
    · rintro c k ⟨l, rfl, m', hF, hle⟩
      obtain ⟨c1, k1, l1, m1, rfl, ⟨l0, rfl, m0, hE, g0⟩, ⟨c2, k2, l2, m2, rfl, ⟨z, rfl, _, g1⟩, rfl, g2⟩, g3⟩ := hF
      obtain ⟨accs, e1, rfl, e3⟩ := elems_accs 12 hE
      exact ⟨⟨accs, z⟩, rfl, e1, fun a ha => by have := e3 a ha; omega⟩
set_option maxRecDepth 100000 in
theorem openLed {v : Value} {d : DataW H} {ps : List MemPlace} {b0 : Nat} {r : Reach} (hok : Value.okWide Tryd.prog W r b0 49 v) (hd : DataW.Trod enc Tryd.prog W 0 (fun _ => true) true 49 v d ps) :
    ∃ a : Led, Rel (ImmOf W) (.agg (ledCV a)) v ∧ a.accs.length = 12 ∧ ∀ x ∈ a.accs, accSize x + 8 ≤ YtjajbnmfcjcaiaaDoor.Rows.uptoBulk d := by
  obtain ⟨c, h1, h⟩ := rel_of_trod_agg (R := RLed) Tryd.underlying49 (fun n => rdLed n) hd hok (fun c k h => by obtain ⟨t, h, _⟩ := h; exact ⟨_, h⟩)
  obtain ⟨a, rfl, h2, h3⟩ := h
  exact ⟨a, h1, h2, h3⟩
end
end Go.Proofs

set_option linter.unusedSimpArgs false
set_option linter.unusedVariables false
namespace Go.Abs
open Go.ChangeShapes Go.WideShapes Go.RowKit

theorem cell_plain {P : Program} {w : World} {r : Reach} {base : Nat} {t : TypeId} {v : Value} (h : Cell.ok P w r base t v) : (∀ vs, v ≠ .agg vs) ∧ ∀ vs, v ≠ .tuple vs := by
  constructor
  · rintro vs rfl
    unfold Cell.ok at h
    split at h <;> simp_all
  · rintro vs rfl
    unfold Cell.ok at h
    split at h <;> simp_all

/-- A package variable of two cells. -/
theorem glob_two {P : Program} {w : World} (hS : w.ShapedOpen P) {g : Nat} {zero : Array Value} {t : TypeId} (hg : Nat.blt g P.globals.size = true)
    (h0 : ((begin P (fun _ _ => 0) default).world.heap[g]?).bind Obj.row? = some (zero, t)) (hb : P.buildable t = true) (hz : zero.size = 2) :
    Rel (ImmOf w) (.ip [.any, .any]) (.pointer (some ⟨g, 0, none⟩)) := by
  obtain ⟨cs, h1, h2, h3⟩ := hS.1 g zero t (Nat.blt_eq.mp hg) h0
  obtain ⟨ts, _, _, h4⟩ := h3 hb
  rw [hz] at h2
  have c0 : cs[0]? = some cs[0] := by simp [h2]
  have c1 : cs[1]? = some cs[1] := by simp [h2]
  obtain ⟨_, _, k0⟩ := h4 0 _ c0
  obtain ⟨_, _, k1⟩ := h4 1 _ c1
  simp only [Rel]
  refine ⟨g, 0, rfl, ?_⟩
  simp only [CellsG]
  refine ⟨⟨cs[0], ?_, ?_, rfl⟩, ⟨cs[1], ?_, ?_, rfl⟩, trivial⟩
  · simp [ImmOf, World.cell?, h1]
  · simp only [Rel]; exact cell_plain k0
  · simp [ImmOf, World.cell?, h1]
  · simp only [Rel]; exact cell_plain k1

section
variable {H : Type} {enc : TypeId × Value → H} {P : Program} {W : World}
/-- The package's own way to a returning call, with what is known of the variables handed on. -/
theorem returnsShaped {a : Assume} {C : Checked} {os : Os} {f : FuncId} {fn : Func} {s : OpenSpec} {k : (H : Type) → List (DataW H) → Bool} (hk : s.cond = some k) {F : Stop.Interp} {conds : List PathCond} {apart fresh handsOn again : Bool}
    (own : ownKnob C.prog.godebug = none) (started : os.Started) (noInit : C.prog.inits.idxOf? f = none) (hfn : C.prog.funcs[f]? = some fn)
    (witness : ∃ (w : World) (tape : Tape) (i : Input), w.os = os ∧ (w.forCall tape i).Shaped C.prog ∧ i.vars = [] ∧ Input.okWide C.prog (w.forCall tape i) .any w.heap.size f i ∧
      s.pre6 enc C.prog fn conds apart (w.forCall tape i).memory i.args ∧ a.holds C.prog (lone (Frame.enter C.prog f i.args .normal) [] (w.forCall tape i)))
    (contract : ∀ (W : World) (hS : W.ShapedOpen C.prog) (base : Nat) (args : Array Value) (ds gs : List (DataW H)) (before : List MemPlace),
      (∀ (j : Nat) t v, fn.params[j]? = some t → args[j]? = some v → Value.okWide C.prog W .any base t v) →
      DataW.Whole enc C.prog fn.params.toList s.vars apart W args.toList ds gs before →
      conds.all (PathCond.test C.prog ⟨fn.params.toList, ds, s.bare.plain.varTypes C.prog, gs⟩) = true → k H (ds ++ gs) = true →
      a.holds C.prog (lone (Frame.enter C.prog f args .normal) [] W) →
      Calls C.prog f args W fun e W' => ∃ v, e = .returned v ∧ (s.at F).post enc C.prog fn apart fresh handsOn again W args v W') :
    ReturnsInHanded a C os f .any (s.pre6 enc C.prog fn conds apart) ((s.at F).post enc C.prog fn apart fresh handsOn again) := by
  refine returnsInHanded_of_calls own started noInit witness ?_
  intro w tape i _ hS _ hok hpre hholds
  obtain ⟨_, _, _, fn', hfn', _, _, _, _, hval⟩ := hok
  obtain rfl : fn' = fn := Option.some.inj (hfn'.symm.trans hfn)
  obtain ⟨ds, gs, before, hw, hc, hkk⟩ := (OpenSpec.pre_some hk conds apart _ _).1 hpre.1
  refine (contract (w.forCall tape i) hS w.heap.size i.args ds gs before hval (DataW.Whole.of_heap (w' := w.forCall tape i) (by rfl) hw) hc hkk hholds).mono fun e W' ⟨v, he, hp⟩ => ?_
  subst he
  exact ChangeSpec.post_blind hp

theorem law_stepG {X : Ctx} {f : FuncId} {fn : Func} {s : ChangeSpec} {apart fresh handsOn again : Bool} {args : Array Value} {ds gs : List (DataW H)} {before : List MemPlace} {cs : List CV}
    (hq : QCalls P X f cs (.bool true)) (hrel : RelL (ImmOf W) cs args.toList) (hglob : GlobOk X (ImmOf W))
    (hW : DataW.Whole enc P fn.params.toList s.vars apart W args.toList ds gs before) (hvars : s.vars = [])
    (hl : laidOutB P = true) (hm : mapsRowed P = true) (hz : ∀ t e, t < P.types.size → P.underlying t = some (.slice e) → 0 < P.cellsOf e) (hT : (fn.params.toList.all fun t => Nat.blt t P.types.size) = true)
    {tb : TypeId} (hr : fn.resultTypes = #[tb]) (hb : P.underlying tb = some .bool) (hfn : s.fn H (ds ++ gs) = { results := [.lit (.bool true)], args := ds }) :
    Calls P f args W fun e W' => ∃ v, e = .returned v ∧ s.post enc P fn apart fresh handsOn again W args v W' := by
  have h := hq.2 (ImmOf W) W args.toList (imm_of W) hglob hrel
  rw [show args.toList.toArray = args from by simp] at h
  refine h.mono ?_
  rintro e W' ⟨u, G', rfl, hu, hg⟩
  simp only [Rel] at hu
  subst hu
  exact ⟨_, rfl, post_grows hW hvars hl hm hz (fun t ht => by have := List.all_eq_true.1 hT t ht; simpa [Nat.blt_eq] using this) hg hr hb rfl hfn⟩
end
end Go.Abs
namespace Go.Proofs
open Go.Abs
theorem Tryd.globOk {W : World} (hS : W.ShapedOpen Tryd.prog) : GlobOk Tryd.X (ImmOf W) := fun n v hv => by
  have h1 : getK n [(0, .ip [.any, .any])] = some v := hv
  simp only [getK] at h1
  cases hn : Nat.beq 0 n with
  | false => rw [hn] at h1; cases h1
  | true =>
    rw [hn] at h1
    obtain rfl := Nat.eq_of_beq_eq_true hn
    cases h1
    exact glob_two hS (zero := #[.slice none 0 0, .bool false]) (t := 27) (by kernel_rfl) (by kernel_rfl) (by kernel_rfl) rfl
end Go.Proofs
