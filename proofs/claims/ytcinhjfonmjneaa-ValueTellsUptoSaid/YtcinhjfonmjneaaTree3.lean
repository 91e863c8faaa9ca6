/- What put and add of package tree answer. -/
-- WIDE
-- OLDASM
import Derived.Test.YtcinhjfonmjneaaTree2
import Derived.Test.YtcinhjfonmjneaaBits
set_option linter.unusedVariables false
set_option linter.unusedSimpArgs false
namespace Go.Proofs
open Go.Abs

theorem rows1 (rows : List CV) (l : List UInt8) (b : UInt8) (z : Int) (h : z = (b.toNat : Int)) : rows ++ byteRows l ++ [CV.int .u8 z] = rows ++ byteRows (l ++ [b]) := by
  subst h; simp [byteRows]
theorem putB_len : ∀ (m c : Nat), (putB c m).length ≤ m + 1 := by
  intro m
  induction m using Nat.strongRecOn with
  | ind m ih =>
    intro c
    by_cases hm : m = 0
    · subst hm; rw [putB_zero]; simp
    · rw [putB_more _ _ hm]
      have := ih (m / 128) (by omega) (m % 128)
      simp only [List.length_cons]; omega
theorem putB_short : ∀ (k m c : Nat), m < 128 ^ k → (putB c m).length ≤ k + 1
  | 0, m, c, h => by
    obtain rfl : m = 0 := by simpa using h
    rw [putB_zero]; simp
  | k + 1, m, c, h => by
    by_cases hm : m = 0
    · subst hm; rw [putB_zero]; simp
    · rw [putB_more _ _ hm]
      have := putB_short k (m / 128) (m % 128) (by rw [Nat.pow_succ] at h; omega)
      simp only [List.length_cons]; omega
theorem numB_len {n : Int} (h1 : -maxI ≤ n) (h2 : n ≤ maxI) : (numB n).length ≤ 10 := by
  unfold numB
  refine putB_short 9 _ _ ?_
  unfold maxI at h1 h2
  omega
attribute [local irreducible] AK AOps QCalls ECalls

theorem loop_put {rows : List CV} {acc : List UInt8} {c : Nat} (h : c < 128) : rows ++ byteRows acc ++ [CV.int .u8 (IntKind.u8.wrap (((BitVec.ofInt 8 (c : Int)) ||| (BitVec.ofInt 8 128)).toNat))] = rows ++ byteRows (acc ++ [Go.Abs.byteOf ((c + 128 : Nat) : Int)]) := by
  refine rows1 rows acc _ _ ?_
  rw [or128 h, byteOf_nat _ (by omega)]

theorem neg_low {n : Int} (h1 : -maxI ≤ n) (h2 : n ≤ maxI) (hn : n < 0) : IntKind.u8.wrap (((BitVec.ofInt 8 64) ||| (BitVec.ofInt 8 (IntKind.u8.wrap (IntKind.i64.wrap (((BitVec.ofInt 64 (IntKind.i64.wrap (0 - n))) &&& (BitVec.ofInt 64 63)).toNat))))).toNat) = ((64 + n.natAbs % 64 : Nat) : Int) := by
  unfold maxI at h1 h2
  rw [w64 (n := 0 - n) (by omega) (by omega), show 0 - n = ((n.natAbs : Nat) : Int) from by omega, and63 (by omega), u8_nat (a := n.natAbs % 64) (by omega)]
  exact or_sign ⟨n.natAbs % 64, by omega⟩
theorem neg_high {n : Int} (h1 : -maxI ≤ n) (h2 : n ≤ maxI) (hn : n < 0) : (IntKind.i64.wrap (0 - n)).fdiv (2 ^ (min 6 64)) = ((n.natAbs / 64 : Nat) : Int) := by
  unfold maxI at h1 h2
  rw [w64 (n := 0 - n) (by omega) (by omega), show 0 - n = ((n.natAbs : Nat) : Int) from by omega]
  exact shr_nat n.natAbs 6
theorem pos_low {n : Int} (h1 : -maxI ≤ n) (h2 : n ≤ maxI) (hn : ¬ n < 0) : IntKind.u8.wrap (((BitVec.ofInt 8 0) ||| (BitVec.ofInt 8 (IntKind.u8.wrap (IntKind.i64.wrap (((BitVec.ofInt 64 n) &&& (BitVec.ofInt 64 63)).toNat))))).toNat) = ((0 + n.natAbs % 64 : Nat) : Int) := by
  unfold maxI at h1 h2
  obtain ⟨a, rfl⟩ : ∃ a : Nat, n = a := ⟨n.toNat, by omega⟩
  rw [and63 (by omega), u8_nat (a := a % 64) (by omega)]
  exact or_none ⟨a % 64, by omega⟩
theorem pos_high {n : Int} (h1 : -maxI ≤ n) (h2 : n ≤ maxI) (hn : ¬ n < 0) : n.fdiv (2 ^ (min 6 64)) = ((n.natAbs / 64 : Nat) : Int) := by
  obtain ⟨a, rfl⟩ : ∃ a : Nat, n = a := ⟨n.toNat, by omega⟩
  exact shr_nat a 6
theorem low127 {m : Nat} (h : m < 9223372036854775808) : IntKind.u8.wrap (IntKind.i64.wrap (((BitVec.ofInt 64 (m : Int)) &&& (BitVec.ofInt 64 127)).toNat)) = ((m % 128 : Nat) : Int) := by
  rw [and127 h, u8_nat (by omega)]

set_option maxHeartbeats 0 in
theorem put_calls (rows : List CV) (n : Int) (h1 : -maxI ≤ n) (h2 : n ≤ maxI) (hl : rows.length ≤ 1099511627776) :
    ECalls Try.prog Try.X 126 [.v (.own 1 rows), .v (.c (.int .i64 n))] [.own 1 (rows ++ byteRows (numB n))] [] := by
  have hab : n.natAbs ≤ 1152921504606846976 := by unfold maxI at h1 h2; omega
  by_cases hn : n < 0
  · have e1 : decide (n < 0) = true := decide_eq_true hn
    refine ECalls.ofL Try.func126 rfl (fun args w => Try.call126 args w) (Nat.le_of_ble_eq_true rfl) [(0, .own (.tok 1000000 0) 1 (rows)), (1, .c (.int .i64 n))] [] [(1000000, 0)] [1000000] rfl rfl fun β => ?_; have hf := Try.func126
    repeat' (first | refine AK.runP Try.hX Try.mixed 300 rfl ?_ | refine AK.condTe rfl asmo ?_ | refine AK.condFe rfl asmo ?_ | (refine AK.condS rfl (fun h => ?_) (fun h => ?_) <;> first | (cases h; done) | rw [h] | skip) | refine AK.retE Try.hX hf rfl rfl rfl rfl ?_ (by with_reducible rfl) | refine AK.retE Try.hX hf rfl rfl rfl rfl ?_ ?_ | refine AK.endE Try.hX hf rfl rfl rfl rfl ?_ (by with_reducible rfl) | refine AK.endE Try.hX hf rfl rfl rfl rfl ?_ ?_ | refine AK.region Try.mixed rfl ?_ | refine AOps.done ?_ | refine AOps.runS Try.hX kn rfl ?_ | refine AOps.box kn rfl rfl rfl rfl rfl rfl ?_ | refine AOps.alloc Try.hX kn rfl rfl rfl rfl rfl rfl rfl ?_ | refine AOps.store Try.hX kn rfl rfl rfl rfl rfl rfl rfl rfl rfl rfl rfl ?_ | refine AOps.buildSlice Try.hX kn rfl rfl rfl rfl rfl rfl rfl rfl rfl rfl rfl rfl ?_ | refine AOps.append Try.hX kn rfl rfl rfl rfl rfl rfl rfl rfl rfl rfl rfl rfl rfl rfl rfl rfl rfl rfl rfl rfl rfl ?_ ?_ | refine AOps.toStr Try.hX kn rfl rfl rfl rfl rfl rfl rfl rfl rfl rfl rfl (by first | exact rfl | exact byte1 _) rfl ?_ | refine AOps.buildArr Try.hX kn rfl rfl rfl rfl rfl rfl rfl rfl ?_ | refine AOps.indexArr Try.hX kn rfl rfl rfl rfl rfl rfl rfl rfl rfl rfl rfl rfl ?_ | refine AOps.runP1 Try.hX kn rfl rfl ?_ | (refine AOps.splitT rfl rfl rfl asmo (fun h => ?_) <;> (fail_if_success (cases h; done)) <;> rw [h]) | (refine AOps.splitF rfl rfl rfl asmo (fun h => ?_) <;> (fail_if_success (cases h; done)) <;> rw [h]) | (refine AOps.split rfl rfl rfl (fun h => ?_) (fun h => ?_) <;> (fail_if_success (cases h; done)) <;> rw [h]) | refine AOps.drawn (by kernel_rfl) ?_)
    refine AK.loopE (α := Nat × Nat × List UInt8) (fun z => z.1 < 128 ∧ z.2.1 ≤ 1152921504606846976 ∧ z.2.2.length ≤ 10 ∧ numB n = z.2.2 ++ putB z.1 z.2.1) (fun z => z.2.1)
      (fun z => [(5, .c (.int .u8 z.1)), (1, .c (.int .i64 z.2.1)), (0, .own (.tok 1000000 0) 1 (rows ++ byteRows z.2.2))]) (fun _ => []) (fun _ => [(1000000, 0)]) [1000000] (64 + n.natAbs % 64, n.natAbs / 64, [])
      ⟨by show 64 + n.natAbs % 64 < 128; omega, by show n.natAbs / 64 ≤ _; omega, by simp, by unfold numB; rw [if_pos hn]; rfl⟩ ⟨.inl (congrArg (fun z => some (AV.c (CV.int .u8 z))) (neg_low h1 h2 hn)), .inl (congrArg (fun z => some (AV.c (CV.int .i64 z))) (neg_high h1 h2 hn)), .inl (congrArg (fun l => some (AV.own (.tok 1000000 0) 1 l)) (List.append_nil rows).symm), trivial⟩ trivial ⟨rfl, trivial⟩ rfl rfl rfl ?_
    rintro ⟨c, m, acc⟩ ⟨hc, hm, hal, hinv⟩ ih
    simp only at hc hm hal hinv
    by_cases hm0 : m = 0
    · have c1 : decide ((m : Int) > 0) = false := decide_eq_false (by omega)
      rw [hm0, putB_zero] at hinv
      clear ih
      repeat' (first | refine AK.runP Try.hX Try.mixed 300 rfl ?_ | refine AK.condTe rfl asmo ?_ | refine AK.condFe rfl asmo ?_ | (refine AK.condS rfl (fun h => ?_) (fun h => ?_) <;> first | (cases h; done) | rw [h] | skip) | refine AK.retE Try.hX hf rfl rfl rfl rfl ?_ (by with_reducible rfl) | refine AK.retE Try.hX hf rfl rfl rfl rfl ?_ ?_ | refine AK.endE Try.hX hf rfl rfl rfl rfl ?_ (by with_reducible rfl) | refine AK.endE Try.hX hf rfl rfl rfl rfl ?_ ?_ | refine AK.region Try.mixed rfl ?_ | refine AOps.done ?_ | refine AOps.runS Try.hX kn rfl ?_ | refine AOps.box kn rfl rfl rfl rfl rfl rfl ?_ | refine AOps.alloc Try.hX kn rfl rfl rfl rfl rfl rfl rfl ?_ | refine AOps.store Try.hX kn rfl rfl rfl rfl rfl rfl rfl rfl rfl rfl rfl ?_ | refine AOps.buildSlice Try.hX kn rfl rfl rfl rfl rfl rfl rfl rfl rfl rfl rfl rfl ?_ | refine AOps.append Try.hX kn rfl rfl rfl rfl rfl rfl rfl rfl rfl rfl rfl rfl rfl rfl rfl rfl rfl rfl rfl rfl rfl ?_ ?_ | refine AOps.toStr Try.hX kn rfl rfl rfl rfl rfl rfl rfl rfl rfl rfl rfl (by first | exact rfl | exact byte1 _) rfl ?_ | refine AOps.buildArr Try.hX kn rfl rfl rfl rfl rfl rfl rfl rfl ?_ | refine AOps.indexArr Try.hX kn rfl rfl rfl rfl rfl rfl rfl rfl rfl rfl rfl rfl ?_ | refine AOps.runP1 Try.hX kn rfl rfl ?_ | (refine AOps.splitT rfl rfl rfl asmo (fun h => ?_) <;> (fail_if_success (cases h; done)) <;> rw [h]) | (refine AOps.splitF rfl rfl rfl asmo (fun h => ?_) <;> (fail_if_success (cases h; done)) <;> rw [h]) | (refine AOps.split rfl rfl rfl (fun h => ?_) (fun h => ?_) <;> (fail_if_success (cases h; done)) <;> rw [h]) | refine AOps.drawn (by kernel_rfl) ?_)
      · simp only [List.length_append, List.length_map, List.length_cons, List.length_nil]; omega
      · show (_ : List LV) = _
        rw [hinv]
        exact congrArg (fun l => [LV.own 1 l]) (rows1 rows acc _ _ (by rw [byteOf_nat _ (by omega)]))
    · have c1 : decide ((m : Int) > 0) = true := decide_eq_true (by omega)
      rw [putB_more _ _ hm0] at hinv
      have hnl := numB_len h1 h2
      rw [hinv] at hnl
      simp only [List.length_append, List.length_cons] at hnl
      repeat' (first | refine AK.runP Try.hX Try.mixed 300 rfl ?_ | refine AK.condTe rfl asmo ?_ | refine AK.condFe rfl asmo ?_ | (refine AK.condS rfl (fun h => ?_) (fun h => ?_) <;> first | (cases h; done) | rw [h] | skip) | refine AK.retE Try.hX hf rfl rfl rfl rfl ?_ (by with_reducible rfl) | refine AK.retE Try.hX hf rfl rfl rfl rfl ?_ ?_ | refine AK.endE Try.hX hf rfl rfl rfl rfl ?_ (by with_reducible rfl) | refine AK.endE Try.hX hf rfl rfl rfl rfl ?_ ?_ | refine AK.region Try.mixed rfl ?_ | refine AOps.done ?_ | refine AOps.runS Try.hX kn rfl ?_ | refine AOps.box kn rfl rfl rfl rfl rfl rfl ?_ | refine AOps.alloc Try.hX kn rfl rfl rfl rfl rfl rfl rfl ?_ | refine AOps.store Try.hX kn rfl rfl rfl rfl rfl rfl rfl rfl rfl rfl rfl ?_ | refine AOps.buildSlice Try.hX kn rfl rfl rfl rfl rfl rfl rfl rfl rfl rfl rfl rfl ?_ | refine AOps.append Try.hX kn rfl rfl rfl rfl rfl rfl rfl rfl rfl rfl rfl rfl rfl rfl rfl rfl rfl rfl rfl rfl rfl ?_ ?_ | refine AOps.toStr Try.hX kn rfl rfl rfl rfl rfl rfl rfl rfl rfl rfl rfl (by first | exact rfl | exact byte1 _) rfl ?_ | refine AOps.buildArr Try.hX kn rfl rfl rfl rfl rfl rfl rfl rfl ?_ | refine AOps.indexArr Try.hX kn rfl rfl rfl rfl rfl rfl rfl rfl rfl rfl rfl rfl ?_ | refine AOps.runP1 Try.hX kn rfl rfl ?_ | (refine AOps.splitT rfl rfl rfl asmo (fun h => ?_) <;> (fail_if_success (cases h; done)) <;> rw [h]) | (refine AOps.splitF rfl rfl rfl asmo (fun h => ?_) <;> (fail_if_success (cases h; done)) <;> rw [h]) | (refine AOps.split rfl rfl rfl (fun h => ?_) (fun h => ?_) <;> (fail_if_success (cases h; done)) <;> rw [h]) | refine AOps.drawn (by kernel_rfl) ?_)
      · simp only [List.length_append, List.length_map, List.length_cons, List.length_nil]; omega
      · refine AK.ren [] [(1000000, (0, some 1000000))] (env' := [(5, .c (.int .u8 ((m % 128 : Nat) : Int))), (1, .c (.int .i64 ((m / 128 : Nat) : Int))), (0, .own (.tok 1000000 0) 1 (rows ++ byteRows (acc ++ [Go.Abs.byteOf ((c + 128 : Nat) : Int)])))])
          (bs' := []) (ts' := [(1000000, 0)]) (us' := [1000000])
          ⟨⟨_, rfl, .inl (congrArg (fun z => AV.c (CV.int .u8 z)) (low127 (m := m) (by omega)))⟩, ⟨_, rfl, .inl (congrArg (fun z => AV.c (CV.int .i64 z)) (shr_nat m 7))⟩, ⟨_, rfl, ⟨_, rfl, .inr ⟨_, _, rfl, rfl, congrArg (AV.own (.tok 1000000 1) 1) (loop_put hc)⟩⟩⟩, trivial⟩ trivial rfl ?_
        refine ih (m % 128, m / 128, acc ++ [Go.Abs.byteOf ((c + 128 : Nat) : Int)]) ⟨by show m % 128 < 128; omega, by show m / 128 ≤ _; omega, by simp only [List.length_append, List.length_cons, List.length_nil]; omega, by show numB n = _; rw [hinv]; simp⟩ (by show m / 128 < m; omega)
  · have e1 : decide (n < 0) = false := decide_eq_false hn
    refine ECalls.ofL Try.func126 rfl (fun args w => Try.call126 args w) (Nat.le_of_ble_eq_true rfl) [(0, .own (.tok 1000000 0) 1 (rows)), (1, .c (.int .i64 n))] [] [(1000000, 0)] [1000000] rfl rfl fun β => ?_; have hf := Try.func126
    repeat' (first | refine AK.runP Try.hX Try.mixed 300 rfl ?_ | refine AK.condTe rfl asmo ?_ | refine AK.condFe rfl asmo ?_ | (refine AK.condS rfl (fun h => ?_) (fun h => ?_) <;> first | (cases h; done) | rw [h] | skip) | refine AK.retE Try.hX hf rfl rfl rfl rfl ?_ (by with_reducible rfl) | refine AK.retE Try.hX hf rfl rfl rfl rfl ?_ ?_ | refine AK.endE Try.hX hf rfl rfl rfl rfl ?_ (by with_reducible rfl) | refine AK.endE Try.hX hf rfl rfl rfl rfl ?_ ?_ | refine AK.region Try.mixed rfl ?_ | refine AOps.done ?_ | refine AOps.runS Try.hX kn rfl ?_ | refine AOps.box kn rfl rfl rfl rfl rfl rfl ?_ | refine AOps.alloc Try.hX kn rfl rfl rfl rfl rfl rfl rfl ?_ | refine AOps.store Try.hX kn rfl rfl rfl rfl rfl rfl rfl rfl rfl rfl rfl ?_ | refine AOps.buildSlice Try.hX kn rfl rfl rfl rfl rfl rfl rfl rfl rfl rfl rfl rfl ?_ | refine AOps.append Try.hX kn rfl rfl rfl rfl rfl rfl rfl rfl rfl rfl rfl rfl rfl rfl rfl rfl rfl rfl rfl rfl rfl ?_ ?_ | refine AOps.toStr Try.hX kn rfl rfl rfl rfl rfl rfl rfl rfl rfl rfl rfl (by first | exact rfl | exact byte1 _) rfl ?_ | refine AOps.buildArr Try.hX kn rfl rfl rfl rfl rfl rfl rfl rfl ?_ | refine AOps.indexArr Try.hX kn rfl rfl rfl rfl rfl rfl rfl rfl rfl rfl rfl rfl ?_ | refine AOps.runP1 Try.hX kn rfl rfl ?_ | (refine AOps.splitT rfl rfl rfl asmo (fun h => ?_) <;> (fail_if_success (cases h; done)) <;> rw [h]) | (refine AOps.splitF rfl rfl rfl asmo (fun h => ?_) <;> (fail_if_success (cases h; done)) <;> rw [h]) | (refine AOps.split rfl rfl rfl (fun h => ?_) (fun h => ?_) <;> (fail_if_success (cases h; done)) <;> rw [h]) | refine AOps.drawn (by kernel_rfl) ?_)
    refine AK.loopE (α := Nat × Nat × List UInt8) (fun z => z.1 < 128 ∧ z.2.1 ≤ 1152921504606846976 ∧ z.2.2.length ≤ 10 ∧ numB n = z.2.2 ++ putB z.1 z.2.1) (fun z => z.2.1)
      (fun z => [(5, .c (.int .u8 z.1)), (1, .c (.int .i64 z.2.1)), (0, .own (.tok 1000000 0) 1 (rows ++ byteRows z.2.2))]) (fun _ => []) (fun _ => [(1000000, 0)]) [1000000] (0 + n.natAbs % 64, n.natAbs / 64, [])
      ⟨by show 0 + n.natAbs % 64 < 128; omega, by show n.natAbs / 64 ≤ _; omega, by simp, by unfold numB; rw [if_neg hn]; rfl⟩ ⟨.inl (congrArg (fun z => some (AV.c (CV.int .u8 z))) (pos_low h1 h2 hn)), .inl (congrArg (fun z => some (AV.c (CV.int .i64 z))) (pos_high h1 h2 hn)), .inl (congrArg (fun l => some (AV.own (.tok 1000000 0) 1 l)) (List.append_nil rows).symm), trivial⟩ trivial ⟨rfl, trivial⟩ rfl rfl rfl ?_
    rintro ⟨c, m, acc⟩ ⟨hc, hm, hal, hinv⟩ ih
    simp only at hc hm hal hinv
    by_cases hm0 : m = 0
    · have c1 : decide ((m : Int) > 0) = false := decide_eq_false (by omega)
      rw [hm0, putB_zero] at hinv
      clear ih
      repeat' (first | refine AK.runP Try.hX Try.mixed 300 rfl ?_ | refine AK.condTe rfl asmo ?_ | refine AK.condFe rfl asmo ?_ | (refine AK.condS rfl (fun h => ?_) (fun h => ?_) <;> first | (cases h; done) | rw [h] | skip) | refine AK.retE Try.hX hf rfl rfl rfl rfl ?_ (by with_reducible rfl) | refine AK.retE Try.hX hf rfl rfl rfl rfl ?_ ?_ | refine AK.endE Try.hX hf rfl rfl rfl rfl ?_ (by with_reducible rfl) | refine AK.endE Try.hX hf rfl rfl rfl rfl ?_ ?_ | refine AK.region Try.mixed rfl ?_ | refine AOps.done ?_ | refine AOps.runS Try.hX kn rfl ?_ | refine AOps.box kn rfl rfl rfl rfl rfl rfl ?_ | refine AOps.alloc Try.hX kn rfl rfl rfl rfl rfl rfl rfl ?_ | refine AOps.store Try.hX kn rfl rfl rfl rfl rfl rfl rfl rfl rfl rfl rfl ?_ | refine AOps.buildSlice Try.hX kn rfl rfl rfl rfl rfl rfl rfl rfl rfl rfl rfl rfl ?_ | refine AOps.append Try.hX kn rfl rfl rfl rfl rfl rfl rfl rfl rfl rfl rfl rfl rfl rfl rfl rfl rfl rfl rfl rfl rfl ?_ ?_ | refine AOps.toStr Try.hX kn rfl rfl rfl rfl rfl rfl rfl rfl rfl rfl rfl (by first | exact rfl | exact byte1 _) rfl ?_ | refine AOps.buildArr Try.hX kn rfl rfl rfl rfl rfl rfl rfl rfl ?_ | refine AOps.indexArr Try.hX kn rfl rfl rfl rfl rfl rfl rfl rfl rfl rfl rfl rfl ?_ | refine AOps.runP1 Try.hX kn rfl rfl ?_ | (refine AOps.splitT rfl rfl rfl asmo (fun h => ?_) <;> (fail_if_success (cases h; done)) <;> rw [h]) | (refine AOps.splitF rfl rfl rfl asmo (fun h => ?_) <;> (fail_if_success (cases h; done)) <;> rw [h]) | (refine AOps.split rfl rfl rfl (fun h => ?_) (fun h => ?_) <;> (fail_if_success (cases h; done)) <;> rw [h]) | refine AOps.drawn (by kernel_rfl) ?_)
      · simp only [List.length_append, List.length_map, List.length_cons, List.length_nil]; omega
      · show (_ : List LV) = _
        rw [hinv]
        exact congrArg (fun l => [LV.own 1 l]) (rows1 rows acc _ _ (by rw [byteOf_nat _ (by omega)]))
    · have c1 : decide ((m : Int) > 0) = true := decide_eq_true (by omega)
      rw [putB_more _ _ hm0] at hinv
      have hnl := numB_len h1 h2
      rw [hinv] at hnl
      simp only [List.length_append, List.length_cons] at hnl
      repeat' (first | refine AK.runP Try.hX Try.mixed 300 rfl ?_ | refine AK.condTe rfl asmo ?_ | refine AK.condFe rfl asmo ?_ | (refine AK.condS rfl (fun h => ?_) (fun h => ?_) <;> first | (cases h; done) | rw [h] | skip) | refine AK.retE Try.hX hf rfl rfl rfl rfl ?_ (by with_reducible rfl) | refine AK.retE Try.hX hf rfl rfl rfl rfl ?_ ?_ | refine AK.endE Try.hX hf rfl rfl rfl rfl ?_ (by with_reducible rfl) | refine AK.endE Try.hX hf rfl rfl rfl rfl ?_ ?_ | refine AK.region Try.mixed rfl ?_ | refine AOps.done ?_ | refine AOps.runS Try.hX kn rfl ?_ | refine AOps.box kn rfl rfl rfl rfl rfl rfl ?_ | refine AOps.alloc Try.hX kn rfl rfl rfl rfl rfl rfl rfl ?_ | refine AOps.store Try.hX kn rfl rfl rfl rfl rfl rfl rfl rfl rfl rfl rfl ?_ | refine AOps.buildSlice Try.hX kn rfl rfl rfl rfl rfl rfl rfl rfl rfl rfl rfl rfl ?_ | refine AOps.append Try.hX kn rfl rfl rfl rfl rfl rfl rfl rfl rfl rfl rfl rfl rfl rfl rfl rfl rfl rfl rfl rfl rfl ?_ ?_ | refine AOps.toStr Try.hX kn rfl rfl rfl rfl rfl rfl rfl rfl rfl rfl rfl (by first | exact rfl | exact byte1 _) rfl ?_ | refine AOps.buildArr Try.hX kn rfl rfl rfl rfl rfl rfl rfl rfl ?_ | refine AOps.indexArr Try.hX kn rfl rfl rfl rfl rfl rfl rfl rfl rfl rfl rfl rfl ?_ | refine AOps.runP1 Try.hX kn rfl rfl ?_ | (refine AOps.splitT rfl rfl rfl asmo (fun h => ?_) <;> (fail_if_success (cases h; done)) <;> rw [h]) | (refine AOps.splitF rfl rfl rfl asmo (fun h => ?_) <;> (fail_if_success (cases h; done)) <;> rw [h]) | (refine AOps.split rfl rfl rfl (fun h => ?_) (fun h => ?_) <;> (fail_if_success (cases h; done)) <;> rw [h]) | refine AOps.drawn (by kernel_rfl) ?_)
      · simp only [List.length_append, List.length_map, List.length_cons, List.length_nil]; omega
      · refine AK.ren [] [(1000000, (0, some 1000000))] (env' := [(5, .c (.int .u8 ((m % 128 : Nat) : Int))), (1, .c (.int .i64 ((m / 128 : Nat) : Int))), (0, .own (.tok 1000000 0) 1 (rows ++ byteRows (acc ++ [Go.Abs.byteOf ((c + 128 : Nat) : Int)])))])
          (bs' := []) (ts' := [(1000000, 0)]) (us' := [1000000])
          ⟨⟨_, rfl, .inl (congrArg (fun z => AV.c (CV.int .u8 z)) (low127 (m := m) (by omega)))⟩, ⟨_, rfl, .inl (congrArg (fun z => AV.c (CV.int .i64 z)) (shr_nat m 7))⟩, ⟨_, rfl, ⟨_, rfl, .inr ⟨_, _, rfl, rfl, congrArg (AV.own (.tok 1000000 1) 1) (loop_put hc)⟩⟩⟩, trivial⟩ trivial rfl ?_
        refine ih (m % 128, m / 128, acc ++ [Go.Abs.byteOf ((c + 128 : Nat) : Int)]) ⟨by show m % 128 < 128; omega, by show m / 128 ≤ _; omega, by simp only [List.length_append, List.length_cons, List.length_nil]; omega, by show numB n = _; rw [hinv]; simp⟩ (by show m / 128 < m; omega)
end Go.Proofs
