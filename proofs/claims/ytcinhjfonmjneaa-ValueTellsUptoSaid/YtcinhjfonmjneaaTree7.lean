/- What numberText and numberOf of touchstoneref answer. -/
-- WIDE
import Derived.Test.YtcinhjfonmjneaaTree6
import Derived.Test.YtcinhjfonmjneaaNPure
import Derived.Test.YtcinhjfonmjneaaRefNum
set_option linter.unusedVariables false
set_option linter.unusedSimpArgs false
namespace Go.Proofs
open Go.Abs

theorem tmod_nat (a k : Nat) : (a : Int).tmod k = ((a % k : Nat) : Int) := by rw [Int.ofNat_tmod]
theorem tdiv_nat (a k : Nat) : (a : Int).tdiv k = ((a / k : Nat) : Int) := by rw [Int.ofNat_tdiv]
theorem numB_neg (M : Nat) (h : 0 < M) : numB (-(M : Int)) = putB (64 + M % 64) (M / 64) := by
  unfold numB; rw [if_pos (by omega), Int.natAbs_neg, Int.natAbs_natCast]
theorem numB_non (M : Nat) : numB (M : Int) = putB (0 + M % 64) (M / 64) := by
  unfold numB; rw [if_neg (by omega), Int.natAbs_natCast]
theorem putB_go (k : Nat) (h : 128 ≤ k) : putB (k % 128) (k / 128) = Go.Abs.byteOf ((128 + k % 128 : Nat) : Int) :: putB (k / 128 % 128) (k / 128 / 128) := by
  rw [putB_more _ _ (by omega), Nat.add_comm 128]
theorem putB_stop (k : Nat) (h : k < 128) : putB (k % 128) (k / 128) = [Go.Abs.byteOf ((k : Nat) : Int)] := by
  rw [show k / 128 = 0 from by omega, putB_zero, Nat.mod_eq_of_lt h]
attribute [local irreducible] AK AOps QCalls ECalls numB

set_option maxHeartbeats 0 in
theorem numberText_calls (n : Int) (h1 : -maxI ≤ n) (h2 : n ≤ maxI) : QCalls Try.prog Try.X 127 [.int .i64 n] (.str (numB n)) := by
  have hlen9 := (numB_facts n h1 h2).2.2.2
  unfold maxI at h1 h2
  by_cases hn : n < 0
  · obtain ⟨M, hM, rfl⟩ : ∃ M : Nat, 0 < M ∧ n = -(M : Int) := ⟨n.natAbs, by omega, by omega⟩
    clear hn
    have e0 : (IntKind.i64.wrap (0 - -(M : Int))) = (M : Int) := by rw [w64 (by omega) (by omega)]; omega
    have hNB : numB (-(M : Int)) = putB (64 + M % 64) (M / 64) := numB_neg M hM
    have e1 : decide ((-(M : Int)) < 0) = true := decide_eq_true (by omega)
    by_cases hs : M < 64
    · have e2 : decide ((IntKind.i64.wrap (0 - -(M : Int))) < 64) = true := decide_eq_true (by rw [e0]; omega)
      refine QCalls.of Try.func127 rfl (fun args w => Try.call127 args w) (Nat.le_of_ble_eq_true rfl) [(0, .c (.int .i64 (-(M : Int))))] rfl fun β hβ => ?_; have hf := Try.func127
      repeat' (first | refine AK.runP Try.hX Try.mixed 300 rfl ?_ | refine AK.condTe rfl asm ?_ | refine AK.condFe rfl asm ?_ | (refine AK.condS rfl (fun h => ?_) (fun h => ?_) <;> first | (cases h; done) | rw [h] | skip) | refine AK.retQ Try.hX hf rfl rfl ?_ | refine AK.region Try.mixed rfl ?_ | refine AOps.done ?_ | refine AOps.runS Try.hX kn rfl ?_ | (first | refine AOps.quo Try.hX kn rfl rfl rfl rfl rfl rfl rfl ((by decide)) ?_ | refine AOps.rem Try.hX kn rfl rfl rfl rfl rfl rfl rfl ((by decide)) ?_) | refine AOps.box kn rfl rfl rfl rfl rfl rfl ?_ | refine AOps.alloc Try.hX kn rfl rfl rfl rfl rfl rfl rfl ?_ | refine AOps.store Try.hX kn rfl rfl rfl rfl rfl rfl rfl rfl rfl rfl rfl ?_ | refine AOps.buildSlice Try.hX kn rfl rfl rfl rfl rfl rfl rfl rfl rfl rfl rfl rfl ?_ | refine AOps.append Try.hX kn rfl rfl rfl rfl rfl rfl rfl rfl rfl rfl rfl rfl rfl rfl rfl rfl rfl rfl rfl rfl rfl ?_ ?_ | refine AOps.toStr Try.hX kn rfl rfl rfl rfl rfl rfl rfl rfl rfl rfl rfl (by first | exact rfl | exact byte1 _) rfl ?_ | refine AOps.buildArr Try.hX kn rfl rfl rfl rfl rfl rfl rfl rfl ?_ | refine AOps.indexArr Try.hX kn rfl rfl rfl rfl rfl rfl rfl rfl rfl rfl rfl rfl ?_ | refine AOps.runP1 Try.hX kn rfl rfl ?_ | (refine AOps.splitT rfl rfl rfl asm (fun h => ?_) <;> (fail_if_success (cases h; done)) <;> rw [h]) | (refine AOps.splitF rfl rfl rfl asm (fun h => ?_) <;> (fail_if_success (cases h; done)) <;> rw [h]) | (refine AOps.split rfl rfl rfl (fun h => ?_) (fun h => ?_) <;> (fail_if_success (cases h; done)) <;> rw [h]) | refine AOps.drawn (by kernel_rfl) ?_)
      all_goals
        show (_ : CV) = _
        clear hf
        rw [hNB, show M / 64 = 0 from by omega, putB_zero]
        refine congrArg (fun z => CV.str [Go.Abs.byteOf z]) ?_
        rw [e0, w64 (by omega) (by omega)]; omega
    · have e2 : decide ((IntKind.i64.wrap (0 - -(M : Int))) < 64) = false := decide_eq_false (by rw [e0]; omega)
      have hm : ((IntKind.i64.wrap (0 - -(M : Int)))).tmod 64 = ((M % 64 : Nat) : Int) := by rw [e0]; exact tmod_nat M 64
      have hd : IntKind.i64.wrap (((IntKind.i64.wrap (0 - -(M : Int)))).tdiv 64) = ((M / 64 : Nat) : Int) := by rw [e0, show (64 : Int) = ((64 : Nat) : Int) from rfl, tdiv_nat, w64 (by omega) (by omega)]
      have hb : IntKind.i64.wrap (IntKind.i64.wrap (128 + 64) + ((IntKind.i64.wrap (0 - -(M : Int)))).tmod 64) = ((64 + M % 64 + 128 : Nat) : Int) := by rw [hm, show IntKind.i64.wrap (128 + 64) = (128 + 64 : Int) from by decide, w64 (by omega) (by omega)]; omega
      refine QCalls.of Try.func127 rfl (fun args w => Try.call127 args w) (Nat.le_of_ble_eq_true rfl) [(0, .c (.int .i64 (-(M : Int))))] rfl fun β hβ => ?_; have hf := Try.func127
      repeat' (first | refine AK.runP Try.hX Try.mixed 300 rfl ?_ | refine AK.condTe rfl asm ?_ | refine AK.condFe rfl asm ?_ | (refine AK.condS rfl (fun h => ?_) (fun h => ?_) <;> first | (cases h; done) | rw [h] | skip) | refine AK.retQ Try.hX hf rfl rfl ?_ | refine AK.region Try.mixed rfl ?_ | refine AOps.done ?_ | refine AOps.runS Try.hX kn rfl ?_ | (first | refine AOps.quo Try.hX kn rfl rfl rfl rfl rfl rfl rfl ((by decide)) ?_ | refine AOps.rem Try.hX kn rfl rfl rfl rfl rfl rfl rfl ((by decide)) ?_) | refine AOps.box kn rfl rfl rfl rfl rfl rfl ?_ | refine AOps.alloc Try.hX kn rfl rfl rfl rfl rfl rfl rfl ?_ | refine AOps.store Try.hX kn rfl rfl rfl rfl rfl rfl rfl rfl rfl rfl rfl ?_ | refine AOps.buildSlice Try.hX kn rfl rfl rfl rfl rfl rfl rfl rfl rfl rfl rfl rfl ?_ | refine AOps.append Try.hX kn rfl rfl rfl rfl rfl rfl rfl rfl rfl rfl rfl rfl rfl rfl rfl rfl rfl rfl rfl rfl rfl ?_ ?_ | refine AOps.toStr Try.hX kn rfl rfl rfl rfl rfl rfl rfl rfl rfl rfl rfl (by first | exact rfl | exact byte1 _) rfl ?_ | refine AOps.buildArr Try.hX kn rfl rfl rfl rfl rfl rfl rfl rfl ?_ | refine AOps.indexArr Try.hX kn rfl rfl rfl rfl rfl rfl rfl rfl rfl rfl rfl rfl ?_ | refine AOps.runP1 Try.hX kn rfl rfl ?_ | (refine AOps.splitT rfl rfl rfl asm (fun h => ?_) <;> (fail_if_success (cases h; done)) <;> rw [h]) | (refine AOps.splitF rfl rfl rfl asm (fun h => ?_) <;> (fail_if_success (cases h; done)) <;> rw [h]) | (refine AOps.split rfl rfl rfl (fun h => ?_) (fun h => ?_) <;> (fail_if_success (cases h; done)) <;> rw [h]) | refine AOps.drawn (by kernel_rfl) ?_)
      refine AK.loopE (α := Nat × List UInt8) (fun z => z.1 ≤ 1152921504606846976 ∧ numB (-(M : Int)) = z.2 ++ putB (z.1 % 128) (z.1 / 128)) (fun z => z.1)
        (fun z => [(0, .c (.int .i64 z.1)), (4, .c (.str z.2))]) (fun _ => []) (fun _ => []) [] (M / 64, [Go.Abs.byteOf ((64 + M % 64 + 128 : Nat) : Int)])
        ⟨by show M / 64 ≤ 1152921504606846976; omega, by rw [hNB, putB_more _ _ (show M / 64 ≠ 0 from by omega)]; rfl⟩ ⟨.inl (congrArg (fun z => some (AV.c (CV.int .i64 z))) hd), .inl (congrArg (fun z => some (AV.c (CV.str [Go.Abs.byteOf z]))) hb), trivial⟩ trivial trivial rfl rfl rfl ?_
      rintro ⟨k, s⟩ ⟨hk, hinv⟩ ih
      simp only at hk hinv
      have hsl : s.length ≤ 9 := by
        have := congrArg List.length hinv
        rw [List.length_append] at this; omega
      by_cases hk2 : 128 ≤ k
      · have c1 : decide (((k : Nat) : Int) ≥ 128) = true := decide_eq_true (by omega)
        rw [putB_go k hk2] at hinv
        have hkd : IntKind.i64.wrap (((k : Nat) : Int).tdiv 128) = ((k / 128 : Nat) : Int) := by rw [show (128 : Int) = ((128 : Nat) : Int) from rfl, tdiv_nat, w64 (by omega) (by omega)]
        have hkb : IntKind.i64.wrap (128 + ((k : Nat) : Int).tmod 128) = ((128 + k % 128 : Nat) : Int) := by rw [show ((k : Nat) : Int).tmod 128 = ((k % 128 : Nat) : Int) from tmod_nat k 128, w64 (by omega) (by omega)]; omega
        repeat' (first | refine AK.runP Try.hX Try.mixed 300 rfl ?_ | refine AK.condTe rfl asm ?_ | refine AK.condFe rfl asm ?_ | (refine AK.condS rfl (fun h => ?_) (fun h => ?_) <;> first | (cases h; done) | rw [h] | skip) | refine AK.retQ Try.hX hf rfl rfl ?_ | refine AK.region Try.mixed rfl ?_ | refine AOps.done ?_ | refine AOps.runS Try.hX kn rfl ?_ | (first | refine AOps.quo Try.hX kn rfl rfl rfl rfl rfl rfl rfl ((by decide)) ?_ | refine AOps.rem Try.hX kn rfl rfl rfl rfl rfl rfl rfl ((by decide)) ?_) | refine AOps.concat Try.hX kn rfl rfl rfl rfl rfl (by simp only [List.length_cons, List.length_nil]; omega) ?_ | refine AOps.box kn rfl rfl rfl rfl rfl rfl ?_ | refine AOps.alloc Try.hX kn rfl rfl rfl rfl rfl rfl rfl ?_ | refine AOps.store Try.hX kn rfl rfl rfl rfl rfl rfl rfl rfl rfl rfl rfl ?_ | refine AOps.buildSlice Try.hX kn rfl rfl rfl rfl rfl rfl rfl rfl rfl rfl rfl rfl ?_ | refine AOps.append Try.hX kn rfl rfl rfl rfl rfl rfl rfl rfl rfl rfl rfl rfl rfl rfl rfl rfl rfl rfl rfl rfl rfl ?_ ?_ | refine AOps.toStr Try.hX kn rfl rfl rfl rfl rfl rfl rfl rfl rfl rfl rfl (by first | exact rfl | exact byte1 _) rfl ?_ | refine AOps.buildArr Try.hX kn rfl rfl rfl rfl rfl rfl rfl rfl ?_ | refine AOps.indexArr Try.hX kn rfl rfl rfl rfl rfl rfl rfl rfl rfl rfl rfl rfl ?_ | refine AOps.runP1 Try.hX kn rfl rfl ?_ | (refine AOps.splitT rfl rfl rfl asm (fun h => ?_) <;> (fail_if_success (cases h; done)) <;> rw [h]) | (refine AOps.splitF rfl rfl rfl asm (fun h => ?_) <;> (fail_if_success (cases h; done)) <;> rw [h]) | (refine AOps.split rfl rfl rfl (fun h => ?_) (fun h => ?_) <;> (fail_if_success (cases h; done)) <;> rw [h]) | refine AOps.drawn (by kernel_rfl) ?_)
        refine AK.again (ih (k / 128, s ++ [Go.Abs.byteOf ((128 + k % 128 : Nat) : Int)]) ⟨by show k / 128 ≤ 1152921504606846976; omega, by show numB (-(M : Int)) = _; rw [hinv]; simp⟩ (by show k / 128 < k; omega)) ⟨.inl (congrArg (fun z => some (AV.c (CV.int .i64 z))) hkd), .inl (congrArg (fun z => some (AV.c (CV.str (s ++ [Go.Abs.byteOf z])))) hkb), trivial⟩ trivial trivial rfl rfl rfl
      · have c1 : decide (((k : Nat) : Int) ≥ 128) = false := decide_eq_false (by omega)
        rw [putB_stop k (by omega)] at hinv
        clear ih
        rw [hinv]
        repeat' (first | refine AK.runP Try.hX Try.mixed 300 rfl ?_ | refine AK.condTe rfl asm ?_ | refine AK.condFe rfl asm ?_ | (refine AK.condS rfl (fun h => ?_) (fun h => ?_) <;> first | (cases h; done) | rw [h] | skip) | refine AK.retQ Try.hX hf rfl rfl ?_ | refine AK.region Try.mixed rfl ?_ | refine AOps.done ?_ | refine AOps.runS Try.hX kn rfl ?_ | (first | refine AOps.quo Try.hX kn rfl rfl rfl rfl rfl rfl rfl ((by decide)) ?_ | refine AOps.rem Try.hX kn rfl rfl rfl rfl rfl rfl rfl ((by decide)) ?_) | refine AOps.concat Try.hX kn rfl rfl rfl rfl rfl (by simp only [List.length_cons, List.length_nil]; omega) ?_ | refine AOps.box kn rfl rfl rfl rfl rfl rfl ?_ | refine AOps.alloc Try.hX kn rfl rfl rfl rfl rfl rfl rfl ?_ | refine AOps.store Try.hX kn rfl rfl rfl rfl rfl rfl rfl rfl rfl rfl rfl ?_ | refine AOps.buildSlice Try.hX kn rfl rfl rfl rfl rfl rfl rfl rfl rfl rfl rfl rfl ?_ | refine AOps.append Try.hX kn rfl rfl rfl rfl rfl rfl rfl rfl rfl rfl rfl rfl rfl rfl rfl rfl rfl rfl rfl rfl rfl ?_ ?_ | refine AOps.toStr Try.hX kn rfl rfl rfl rfl rfl rfl rfl rfl rfl rfl rfl (by first | exact rfl | exact byte1 _) rfl ?_ | refine AOps.buildArr Try.hX kn rfl rfl rfl rfl rfl rfl rfl rfl ?_ | refine AOps.indexArr Try.hX kn rfl rfl rfl rfl rfl rfl rfl rfl rfl rfl rfl rfl ?_ | refine AOps.runP1 Try.hX kn rfl rfl ?_ | (refine AOps.splitT rfl rfl rfl asm (fun h => ?_) <;> (fail_if_success (cases h; done)) <;> rw [h]) | (refine AOps.splitF rfl rfl rfl asm (fun h => ?_) <;> (fail_if_success (cases h; done)) <;> rw [h]) | (refine AOps.split rfl rfl rfl (fun h => ?_) (fun h => ?_) <;> (fail_if_success (cases h; done)) <;> rw [h]) | refine AOps.drawn (by kernel_rfl) ?_)
        all_goals rfl
  · obtain ⟨M, rfl⟩ : ∃ M : Nat, n = (M : Int) := ⟨n.natAbs, by omega⟩
    clear hn
    have e0 : (M : Int) = (M : Int) := rfl
    have hNB : numB (M : Int) = putB (0 + M % 64) (M / 64) := numB_non M
    have e1 : decide ((M : Int) < 0) = false := decide_eq_false (by omega)
    by_cases hs : M < 64
    · have e2 : decide ((M : Int) < 64) = true := decide_eq_true (by rw [e0]; omega)
      refine QCalls.of Try.func127 rfl (fun args w => Try.call127 args w) (Nat.le_of_ble_eq_true rfl) [(0, .c (.int .i64 (M : Int)))] rfl fun β hβ => ?_; have hf := Try.func127
      repeat' (first | refine AK.runP Try.hX Try.mixed 300 rfl ?_ | refine AK.condTe rfl asm ?_ | refine AK.condFe rfl asm ?_ | (refine AK.condS rfl (fun h => ?_) (fun h => ?_) <;> first | (cases h; done) | rw [h] | skip) | refine AK.retQ Try.hX hf rfl rfl ?_ | refine AK.region Try.mixed rfl ?_ | refine AOps.done ?_ | refine AOps.runS Try.hX kn rfl ?_ | (first | refine AOps.quo Try.hX kn rfl rfl rfl rfl rfl rfl rfl ((by decide)) ?_ | refine AOps.rem Try.hX kn rfl rfl rfl rfl rfl rfl rfl ((by decide)) ?_) | refine AOps.box kn rfl rfl rfl rfl rfl rfl ?_ | refine AOps.alloc Try.hX kn rfl rfl rfl rfl rfl rfl rfl ?_ | refine AOps.store Try.hX kn rfl rfl rfl rfl rfl rfl rfl rfl rfl rfl rfl ?_ | refine AOps.buildSlice Try.hX kn rfl rfl rfl rfl rfl rfl rfl rfl rfl rfl rfl rfl ?_ | refine AOps.append Try.hX kn rfl rfl rfl rfl rfl rfl rfl rfl rfl rfl rfl rfl rfl rfl rfl rfl rfl rfl rfl rfl rfl ?_ ?_ | refine AOps.toStr Try.hX kn rfl rfl rfl rfl rfl rfl rfl rfl rfl rfl rfl (by first | exact rfl | exact byte1 _) rfl ?_ | refine AOps.buildArr Try.hX kn rfl rfl rfl rfl rfl rfl rfl rfl ?_ | refine AOps.indexArr Try.hX kn rfl rfl rfl rfl rfl rfl rfl rfl rfl rfl rfl rfl ?_ | refine AOps.runP1 Try.hX kn rfl rfl ?_ | (refine AOps.splitT rfl rfl rfl asm (fun h => ?_) <;> (fail_if_success (cases h; done)) <;> rw [h]) | (refine AOps.splitF rfl rfl rfl asm (fun h => ?_) <;> (fail_if_success (cases h; done)) <;> rw [h]) | (refine AOps.split rfl rfl rfl (fun h => ?_) (fun h => ?_) <;> (fail_if_success (cases h; done)) <;> rw [h]) | refine AOps.drawn (by kernel_rfl) ?_)
      all_goals
        show (_ : CV) = _
        clear hf
        rw [hNB, show M / 64 = 0 from by omega, putB_zero]
        refine congrArg (fun z => CV.str [Go.Abs.byteOf z]) ?_
        rw [e0, w64 (by omega) (by omega)]; omega
    · have e2 : decide ((M : Int) < 64) = false := decide_eq_false (by rw [e0]; omega)
      have hm : ((M : Int)).tmod 64 = ((M % 64 : Nat) : Int) := by rw [e0]; exact tmod_nat M 64
      have hd : IntKind.i64.wrap (((M : Int)).tdiv 64) = ((M / 64 : Nat) : Int) := by rw [e0, show (64 : Int) = ((64 : Nat) : Int) from rfl, tdiv_nat, w64 (by omega) (by omega)]
      have hb : IntKind.i64.wrap (IntKind.i64.wrap (128 + 0) + ((M : Int)).tmod 64) = ((0 + M % 64 + 128 : Nat) : Int) := by rw [hm, show IntKind.i64.wrap (128 + 0) = (128 + 0 : Int) from by decide, w64 (by omega) (by omega)]; omega
      refine QCalls.of Try.func127 rfl (fun args w => Try.call127 args w) (Nat.le_of_ble_eq_true rfl) [(0, .c (.int .i64 (M : Int)))] rfl fun β hβ => ?_; have hf := Try.func127
      repeat' (first | refine AK.runP Try.hX Try.mixed 300 rfl ?_ | refine AK.condTe rfl asm ?_ | refine AK.condFe rfl asm ?_ | (refine AK.condS rfl (fun h => ?_) (fun h => ?_) <;> first | (cases h; done) | rw [h] | skip) | refine AK.retQ Try.hX hf rfl rfl ?_ | refine AK.region Try.mixed rfl ?_ | refine AOps.done ?_ | refine AOps.runS Try.hX kn rfl ?_ | (first | refine AOps.quo Try.hX kn rfl rfl rfl rfl rfl rfl rfl ((by decide)) ?_ | refine AOps.rem Try.hX kn rfl rfl rfl rfl rfl rfl rfl ((by decide)) ?_) | refine AOps.box kn rfl rfl rfl rfl rfl rfl ?_ | refine AOps.alloc Try.hX kn rfl rfl rfl rfl rfl rfl rfl ?_ | refine AOps.store Try.hX kn rfl rfl rfl rfl rfl rfl rfl rfl rfl rfl rfl ?_ | refine AOps.buildSlice Try.hX kn rfl rfl rfl rfl rfl rfl rfl rfl rfl rfl rfl rfl ?_ | refine AOps.append Try.hX kn rfl rfl rfl rfl rfl rfl rfl rfl rfl rfl rfl rfl rfl rfl rfl rfl rfl rfl rfl rfl rfl ?_ ?_ | refine AOps.toStr Try.hX kn rfl rfl rfl rfl rfl rfl rfl rfl rfl rfl rfl (by first | exact rfl | exact byte1 _) rfl ?_ | refine AOps.buildArr Try.hX kn rfl rfl rfl rfl rfl rfl rfl rfl ?_ | refine AOps.indexArr Try.hX kn rfl rfl rfl rfl rfl rfl rfl rfl rfl rfl rfl rfl ?_ | refine AOps.runP1 Try.hX kn rfl rfl ?_ | (refine AOps.splitT rfl rfl rfl asm (fun h => ?_) <;> (fail_if_success (cases h; done)) <;> rw [h]) | (refine AOps.splitF rfl rfl rfl asm (fun h => ?_) <;> (fail_if_success (cases h; done)) <;> rw [h]) | (refine AOps.split rfl rfl rfl (fun h => ?_) (fun h => ?_) <;> (fail_if_success (cases h; done)) <;> rw [h]) | refine AOps.drawn (by kernel_rfl) ?_)
      refine AK.loopE (α := Nat × List UInt8) (fun z => z.1 ≤ 1152921504606846976 ∧ numB (M : Int) = z.2 ++ putB (z.1 % 128) (z.1 / 128)) (fun z => z.1)
        (fun z => [(0, .c (.int .i64 z.1)), (4, .c (.str z.2))]) (fun _ => []) (fun _ => []) [] (M / 64, [Go.Abs.byteOf ((0 + M % 64 + 128 : Nat) : Int)])
        ⟨by show M / 64 ≤ 1152921504606846976; omega, by rw [hNB, putB_more _ _ (show M / 64 ≠ 0 from by omega)]; rfl⟩ ⟨.inl (congrArg (fun z => some (AV.c (CV.int .i64 z))) hd), .inl (congrArg (fun z => some (AV.c (CV.str [Go.Abs.byteOf z]))) hb), trivial⟩ trivial trivial rfl rfl rfl ?_
      rintro ⟨k, s⟩ ⟨hk, hinv⟩ ih
      simp only at hk hinv
      have hsl : s.length ≤ 9 := by
        have := congrArg List.length hinv
        rw [List.length_append] at this; omega
      by_cases hk2 : 128 ≤ k
      · have c1 : decide (((k : Nat) : Int) ≥ 128) = true := decide_eq_true (by omega)
        rw [putB_go k hk2] at hinv
        have hkd : IntKind.i64.wrap (((k : Nat) : Int).tdiv 128) = ((k / 128 : Nat) : Int) := by rw [show (128 : Int) = ((128 : Nat) : Int) from rfl, tdiv_nat, w64 (by omega) (by omega)]
        have hkb : IntKind.i64.wrap (128 + ((k : Nat) : Int).tmod 128) = ((128 + k % 128 : Nat) : Int) := by rw [show ((k : Nat) : Int).tmod 128 = ((k % 128 : Nat) : Int) from tmod_nat k 128, w64 (by omega) (by omega)]; omega
        repeat' (first | refine AK.runP Try.hX Try.mixed 300 rfl ?_ | refine AK.condTe rfl asm ?_ | refine AK.condFe rfl asm ?_ | (refine AK.condS rfl (fun h => ?_) (fun h => ?_) <;> first | (cases h; done) | rw [h] | skip) | refine AK.retQ Try.hX hf rfl rfl ?_ | refine AK.region Try.mixed rfl ?_ | refine AOps.done ?_ | refine AOps.runS Try.hX kn rfl ?_ | (first | refine AOps.quo Try.hX kn rfl rfl rfl rfl rfl rfl rfl ((by decide)) ?_ | refine AOps.rem Try.hX kn rfl rfl rfl rfl rfl rfl rfl ((by decide)) ?_) | refine AOps.concat Try.hX kn rfl rfl rfl rfl rfl (by simp only [List.length_cons, List.length_nil]; omega) ?_ | refine AOps.box kn rfl rfl rfl rfl rfl rfl ?_ | refine AOps.alloc Try.hX kn rfl rfl rfl rfl rfl rfl rfl ?_ | refine AOps.store Try.hX kn rfl rfl rfl rfl rfl rfl rfl rfl rfl rfl rfl ?_ | refine AOps.buildSlice Try.hX kn rfl rfl rfl rfl rfl rfl rfl rfl rfl rfl rfl rfl ?_ | refine AOps.append Try.hX kn rfl rfl rfl rfl rfl rfl rfl rfl rfl rfl rfl rfl rfl rfl rfl rfl rfl rfl rfl rfl rfl ?_ ?_ | refine AOps.toStr Try.hX kn rfl rfl rfl rfl rfl rfl rfl rfl rfl rfl rfl (by first | exact rfl | exact byte1 _) rfl ?_ | refine AOps.buildArr Try.hX kn rfl rfl rfl rfl rfl rfl rfl rfl ?_ | refine AOps.indexArr Try.hX kn rfl rfl rfl rfl rfl rfl rfl rfl rfl rfl rfl rfl ?_ | refine AOps.runP1 Try.hX kn rfl rfl ?_ | (refine AOps.splitT rfl rfl rfl asm (fun h => ?_) <;> (fail_if_success (cases h; done)) <;> rw [h]) | (refine AOps.splitF rfl rfl rfl asm (fun h => ?_) <;> (fail_if_success (cases h; done)) <;> rw [h]) | (refine AOps.split rfl rfl rfl (fun h => ?_) (fun h => ?_) <;> (fail_if_success (cases h; done)) <;> rw [h]) | refine AOps.drawn (by kernel_rfl) ?_)
        refine AK.again (ih (k / 128, s ++ [Go.Abs.byteOf ((128 + k % 128 : Nat) : Int)]) ⟨by show k / 128 ≤ 1152921504606846976; omega, by show numB (M : Int) = _; rw [hinv]; simp⟩ (by show k / 128 < k; omega)) ⟨.inl (congrArg (fun z => some (AV.c (CV.int .i64 z))) hkd), .inl (congrArg (fun z => some (AV.c (CV.str (s ++ [Go.Abs.byteOf z])))) hkb), trivial⟩ trivial trivial rfl rfl rfl
      · have c1 : decide (((k : Nat) : Int) ≥ 128) = false := decide_eq_false (by omega)
        rw [putB_stop k (by omega)] at hinv
        clear ih
        rw [hinv]
        repeat' (first | refine AK.runP Try.hX Try.mixed 300 rfl ?_ | refine AK.condTe rfl asm ?_ | refine AK.condFe rfl asm ?_ | (refine AK.condS rfl (fun h => ?_) (fun h => ?_) <;> first | (cases h; done) | rw [h] | skip) | refine AK.retQ Try.hX hf rfl rfl ?_ | refine AK.region Try.mixed rfl ?_ | refine AOps.done ?_ | refine AOps.runS Try.hX kn rfl ?_ | (first | refine AOps.quo Try.hX kn rfl rfl rfl rfl rfl rfl rfl ((by decide)) ?_ | refine AOps.rem Try.hX kn rfl rfl rfl rfl rfl rfl rfl ((by decide)) ?_) | refine AOps.concat Try.hX kn rfl rfl rfl rfl rfl (by simp only [List.length_cons, List.length_nil]; omega) ?_ | refine AOps.box kn rfl rfl rfl rfl rfl rfl ?_ | refine AOps.alloc Try.hX kn rfl rfl rfl rfl rfl rfl rfl ?_ | refine AOps.store Try.hX kn rfl rfl rfl rfl rfl rfl rfl rfl rfl rfl rfl ?_ | refine AOps.buildSlice Try.hX kn rfl rfl rfl rfl rfl rfl rfl rfl rfl rfl rfl rfl ?_ | refine AOps.append Try.hX kn rfl rfl rfl rfl rfl rfl rfl rfl rfl rfl rfl rfl rfl rfl rfl rfl rfl rfl rfl rfl rfl ?_ ?_ | refine AOps.toStr Try.hX kn rfl rfl rfl rfl rfl rfl rfl rfl rfl rfl rfl (by first | exact rfl | exact byte1 _) rfl ?_ | refine AOps.buildArr Try.hX kn rfl rfl rfl rfl rfl rfl rfl rfl ?_ | refine AOps.indexArr Try.hX kn rfl rfl rfl rfl rfl rfl rfl rfl rfl rfl rfl rfl ?_ | refine AOps.runP1 Try.hX kn rfl rfl ?_ | (refine AOps.splitT rfl rfl rfl asm (fun h => ?_) <;> (fail_if_success (cases h; done)) <;> rw [h]) | (refine AOps.splitF rfl rfl rfl asm (fun h => ?_) <;> (fail_if_success (cases h; done)) <;> rw [h]) | (refine AOps.split rfl rfl rfl (fun h => ?_) (fun h => ?_) <;> (fail_if_success (cases h; done)) <;> rw [h]) | refine AOps.drawn (by kernel_rfl) ?_)
        all_goals rfl
end Go.Proofs
