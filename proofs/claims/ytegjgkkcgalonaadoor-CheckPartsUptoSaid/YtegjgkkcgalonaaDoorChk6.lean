/- What numbers of package check answers. What data of package check answers. What world of package check answers. -/
import Derived.Test.YtegjgkkcgalonaaDoorChkQ
-- WK
set_option linter.unusedVariables false
set_option linter.unusedSimpArgs false
namespace Go.Proofs
open Go.Abs
attribute [local irreducible] AK AOps QCalls ECalls tParse tComp tCopy tPack tStore tGood cRow cStep cCodes nMints tPar

set_option maxHeartbeats 0 in
theorem cnumbers_calls (P : Int) (s : List Ty) (hP : P = 69 ∨ P = 70 ∨ P = 71 ∨ P = 72 ∨ 93 ≤ P) (hl : s.length ≤ 9999999990) : QCalls Tryd.prog Tryd.X 38 [.int .i64 P, .sl 2 (encTys s)] (encCR (cNumbers P s)) := by
  by_cases p93 : P = 93
  · subst p93
    rcases s with _ | ⟨⟨T, us⟩, r⟩
    · skip
      have hk := ckinds_calls ([]) [3]
      rw [show kOk ([]) [3] = false from by (simp [kOk_c, kOk_n, kOk_end]) <;> assumption] at hk
      rw [show cNumbers 93 ([]) = cBad 5 from by simp [cNumbers, tyT, tyArg, tyArgs, List.getD_cons_zero, List.getD_cons_succ, cCode]]
      rw [encCR_bad (by decide)]
      refine QCalls.of Tryd.func38 rfl (fun args w => Tryd.call38 args w) (Nat.le_of_ble_eq_true rfl) [(0, .c (.int .i64 93)), (1, .c (.sl 2 (encTys ([]))))] rfl fun β hβ => ?_; have hf := Tryd.func38
      repeat' (first | refine st ?_ | (refine AK.condS rfl (fun h => ?_) (fun h => ?_) <;> first | (cases h; done) | rw [h] | skip) | refine uW hf rfl rfl ?_ | refine uC rfl hk ?_ | refine uI rfl (0) rfl (rfl) rfl ?_ | refine uI rfl (1) rfl (rfl) rfl ?_ | refine uI rfl (2) rfl (rfl) rfl ?_ | ((first | refine AOps.splitT rfl rfl rfl asm (fun h => ?_) | refine AOps.splitF rfl rfl rfl asm (fun h => ?_) | refine AOps.split rfl rfl rfl (fun h => ?_) (fun h => ?_)) <;> (fail_if_success (cases h; done)) <;> rw [h]))
      all_goals first | exact Wk.refl _ | exact wk_bad rfl rfl | exact wk_nil2
    by_cases hT : T = 3
    · subst hT
      have hk := ckinds_calls (.mk 3 us :: r) [3]
      rw [show kOk (.mk 3 us :: r) [3] = true from by (simp [kOk_c, kOk_n, kOk_end]) <;> assumption] at hk
      have hp := cput_calls (r) [.mk 4 []]
      rw [encCR_ok'] at hp
      rw [show cNumbers 93 (.mk 3 us :: r) = cOk (.mk 4 [] :: r) from by simp [cNumbers, tyT, tyArg, tyArgs, List.getD_cons_zero, List.getD_cons_succ, cCode]]
      rw [encCR_ok']
      refine QCalls.of Tryd.func38 rfl (fun args w => Tryd.call38 args w) (Nat.le_of_ble_eq_true rfl) [(0, .c (.int .i64 93)), (1, .c (.sl 2 (encTys (.mk 3 us :: r))))] rfl fun β hβ => ?_; have hf := Tryd.func38
      repeat' (first | refine st ?_ | (refine AK.condS rfl (fun h => ?_) (fun h => ?_) <;> first | (cases h; done) | rw [h] | skip) | refine uW hf rfl rfl ?_ | refine uC rfl hk ?_ | refine uC rfl hp ?_ | refine uC rfl (one0_calls 4) ?_ | refine uI rfl (0) rfl (rfl) rfl ?_ | refine uI rfl (1) rfl (rfl) rfl ?_ | refine uI rfl (2) rfl (rfl) rfl ?_ | ((first | refine AOps.splitT rfl rfl rfl asm (fun h => ?_) | refine AOps.splitF rfl rfl rfl asm (fun h => ?_) | refine AOps.split rfl rfl rfl (fun h => ?_) (fun h => ?_)) <;> (fail_if_success (cases h; done)) <;> rw [h]))
      all_goals first | exact Wk.refl _ | exact wk_bad rfl rfl | exact wk_nil2
    · skip
      have hk := ckinds_calls (.mk T us :: r) [3]
      rw [show kOk (.mk T us :: r) [3] = false from by (simp [kOk_c, kOk_n, kOk_end, hT]) <;> assumption] at hk
      rw [show cNumbers 93 (.mk T us :: r) = cBad 5 from by simp [cNumbers, tyT, tyArg, tyArgs, List.getD_cons_zero, List.getD_cons_succ, cCode, hT]]
      rw [encCR_bad (by decide)]
      refine QCalls.of Tryd.func38 rfl (fun args w => Tryd.call38 args w) (Nat.le_of_ble_eq_true rfl) [(0, .c (.int .i64 93)), (1, .c (.sl 2 (encTys (.mk T us :: r))))] rfl fun β hβ => ?_; have hf := Tryd.func38
      repeat' (first | refine st ?_ | (refine AK.condS rfl (fun h => ?_) (fun h => ?_) <;> first | (cases h; done) | rw [h] | skip) | refine uW hf rfl rfl ?_ | refine uC rfl hk ?_ | refine uI rfl (0) rfl (rfl) rfl ?_ | refine uI rfl (1) rfl (rfl) rfl ?_ | refine uI rfl (2) rfl (rfl) rfl ?_ | ((first | refine AOps.splitT rfl rfl rfl asm (fun h => ?_) | refine AOps.splitF rfl rfl rfl asm (fun h => ?_) | refine AOps.split rfl rfl rfl (fun h => ?_) (fun h => ?_)) <;> (fail_if_success (cases h; done)) <;> rw [h]))
      all_goals first | exact Wk.refl _ | exact wk_bad rfl rfl | exact wk_nil2
  by_cases p94 : P = 94
  · subst p94
    rcases s with _ | ⟨⟨T, us⟩, r⟩
    · skip
      have hk := ckinds_calls ([]) [3]
      rw [show kOk ([]) [3] = false from by (simp [kOk_c, kOk_n, kOk_end]) <;> assumption] at hk
      rw [show cNumbers 94 ([]) = cBad 5 from by simp [cNumbers, tyT, tyArg, tyArgs, List.getD_cons_zero, List.getD_cons_succ, cCode]]
      rw [encCR_bad (by decide)]
      refine QCalls.of Tryd.func38 rfl (fun args w => Tryd.call38 args w) (Nat.le_of_ble_eq_true rfl) [(0, .c (.int .i64 94)), (1, .c (.sl 2 (encTys ([]))))] rfl fun β hβ => ?_; have hf := Tryd.func38
      repeat' (first | refine st ?_ | (refine AK.condS rfl (fun h => ?_) (fun h => ?_) <;> first | (cases h; done) | rw [h] | skip) | refine uW hf rfl rfl ?_ | refine uC rfl hk ?_ | refine uI rfl (0) rfl (rfl) rfl ?_ | refine uI rfl (1) rfl (rfl) rfl ?_ | refine uI rfl (2) rfl (rfl) rfl ?_ | ((first | refine AOps.splitT rfl rfl rfl asm (fun h => ?_) | refine AOps.splitF rfl rfl rfl asm (fun h => ?_) | refine AOps.split rfl rfl rfl (fun h => ?_) (fun h => ?_)) <;> (fail_if_success (cases h; done)) <;> rw [h]))
      all_goals first | exact Wk.refl _ | exact wk_bad rfl rfl | exact wk_nil2
    by_cases hT : T = 3
    · subst hT
      have hk := ckinds_calls (.mk 3 us :: r) [3]
      rw [show kOk (.mk 3 us :: r) [3] = true from by (simp [kOk_c, kOk_n, kOk_end]) <;> assumption] at hk
      have hp := cput_calls (r) [.mk 9 [.mk 4 []]]
      rw [encCR_ok'] at hp
      rw [show cNumbers 94 (.mk 3 us :: r) = cOk (.mk 9 [.mk 4 []] :: r) from by simp [cNumbers, tyT, tyArg, tyArgs, List.getD_cons_zero, List.getD_cons_succ, cCode]]
      rw [encCR_ok']
      refine QCalls.of Tryd.func38 rfl (fun args w => Tryd.call38 args w) (Nat.le_of_ble_eq_true rfl) [(0, .c (.int .i64 94)), (1, .c (.sl 2 (encTys (.mk 3 us :: r))))] rfl fun β hβ => ?_; have hf := Tryd.func38
      repeat' (first | refine st ?_ | (refine AK.condS rfl (fun h => ?_) (fun h => ?_) <;> first | (cases h; done) | rw [h] | skip) | refine uW hf rfl rfl ?_ | refine uC rfl hk ?_ | refine uC rfl hp ?_ | refine uC rfl (one0_calls 4) ?_ | refine uC rfl (one_calls 9 [.mk 4 []]) ?_ | refine uI rfl (0) rfl (rfl) rfl ?_ | refine uI rfl (1) rfl (rfl) rfl ?_ | refine uI rfl (2) rfl (rfl) rfl ?_ | ((first | refine AOps.splitT rfl rfl rfl asm (fun h => ?_) | refine AOps.splitF rfl rfl rfl asm (fun h => ?_) | refine AOps.split rfl rfl rfl (fun h => ?_) (fun h => ?_)) <;> (fail_if_success (cases h; done)) <;> rw [h]))
      all_goals first | exact Wk.refl _ | exact wk_bad rfl rfl | exact wk_nil2
    · skip
      have hk := ckinds_calls (.mk T us :: r) [3]
      rw [show kOk (.mk T us :: r) [3] = false from by (simp [kOk_c, kOk_n, kOk_end, hT]) <;> assumption] at hk
      rw [show cNumbers 94 (.mk T us :: r) = cBad 5 from by simp [cNumbers, tyT, tyArg, tyArgs, List.getD_cons_zero, List.getD_cons_succ, cCode, hT]]
      rw [encCR_bad (by decide)]
      refine QCalls.of Tryd.func38 rfl (fun args w => Tryd.call38 args w) (Nat.le_of_ble_eq_true rfl) [(0, .c (.int .i64 94)), (1, .c (.sl 2 (encTys (.mk T us :: r))))] rfl fun β hβ => ?_; have hf := Tryd.func38
      repeat' (first | refine st ?_ | (refine AK.condS rfl (fun h => ?_) (fun h => ?_) <;> first | (cases h; done) | rw [h] | skip) | refine uW hf rfl rfl ?_ | refine uC rfl hk ?_ | refine uI rfl (0) rfl (rfl) rfl ?_ | refine uI rfl (1) rfl (rfl) rfl ?_ | refine uI rfl (2) rfl (rfl) rfl ?_ | ((first | refine AOps.splitT rfl rfl rfl asm (fun h => ?_) | refine AOps.splitF rfl rfl rfl asm (fun h => ?_) | refine AOps.split rfl rfl rfl (fun h => ?_) (fun h => ?_)) <;> (fail_if_success (cases h; done)) <;> rw [h]))
      all_goals first | exact Wk.refl _ | exact wk_bad rfl rfl | exact wk_nil2
  by_cases p95 : P = 95
  · subst p95
    rcases s with _ | ⟨⟨T, us⟩, r⟩
    · skip
      have hk := ckinds_calls ([]) [4]
      rw [show kOk ([]) [4] = false from by (simp [kOk_c, kOk_n, kOk_end]) <;> assumption] at hk
      rw [show cNumbers 95 ([]) = cBad 5 from by simp [cNumbers, tyT, tyArg, tyArgs, List.getD_cons_zero, List.getD_cons_succ, cCode]]
      rw [encCR_bad (by decide)]
      refine QCalls.of Tryd.func38 rfl (fun args w => Tryd.call38 args w) (Nat.le_of_ble_eq_true rfl) [(0, .c (.int .i64 95)), (1, .c (.sl 2 (encTys ([]))))] rfl fun β hβ => ?_; have hf := Tryd.func38
      repeat' (first | refine st ?_ | (refine AK.condS rfl (fun h => ?_) (fun h => ?_) <;> first | (cases h; done) | rw [h] | skip) | refine uW hf rfl rfl ?_ | refine uC rfl hk ?_ | refine uI rfl (0) rfl (rfl) rfl ?_ | refine uI rfl (1) rfl (rfl) rfl ?_ | refine uI rfl (2) rfl (rfl) rfl ?_ | ((first | refine AOps.splitT rfl rfl rfl asm (fun h => ?_) | refine AOps.splitF rfl rfl rfl asm (fun h => ?_) | refine AOps.split rfl rfl rfl (fun h => ?_) (fun h => ?_)) <;> (fail_if_success (cases h; done)) <;> rw [h]))
      all_goals first | exact Wk.refl _ | exact wk_bad rfl rfl | exact wk_nil2
    by_cases hT : T = 4
    · subst hT
      have hk := ckinds_calls (.mk 4 us :: r) [4]
      rw [show kOk (.mk 4 us :: r) [4] = true from by (simp [kOk_c, kOk_n, kOk_end]) <;> assumption] at hk
      have hp := cput_calls (r) [.mk 3 []]
      rw [encCR_ok'] at hp
      rw [show cNumbers 95 (.mk 4 us :: r) = cOk (.mk 3 [] :: r) from by simp [cNumbers, tyT, tyArg, tyArgs, List.getD_cons_zero, List.getD_cons_succ, cCode]]
      rw [encCR_ok']
      refine QCalls.of Tryd.func38 rfl (fun args w => Tryd.call38 args w) (Nat.le_of_ble_eq_true rfl) [(0, .c (.int .i64 95)), (1, .c (.sl 2 (encTys (.mk 4 us :: r))))] rfl fun β hβ => ?_; have hf := Tryd.func38
      repeat' (first | refine st ?_ | (refine AK.condS rfl (fun h => ?_) (fun h => ?_) <;> first | (cases h; done) | rw [h] | skip) | refine uW hf rfl rfl ?_ | refine uC rfl hk ?_ | refine uC rfl hp ?_ | refine uC rfl (one0_calls 3) ?_ | refine uI rfl (0) rfl (rfl) rfl ?_ | refine uI rfl (1) rfl (rfl) rfl ?_ | refine uI rfl (2) rfl (rfl) rfl ?_ | ((first | refine AOps.splitT rfl rfl rfl asm (fun h => ?_) | refine AOps.splitF rfl rfl rfl asm (fun h => ?_) | refine AOps.split rfl rfl rfl (fun h => ?_) (fun h => ?_)) <;> (fail_if_success (cases h; done)) <;> rw [h]))
      all_goals first | exact Wk.refl _ | exact wk_bad rfl rfl | exact wk_nil2
    · skip
      have hk := ckinds_calls (.mk T us :: r) [4]
      rw [show kOk (.mk T us :: r) [4] = false from by (simp [kOk_c, kOk_n, kOk_end, hT]) <;> assumption] at hk
      rw [show cNumbers 95 (.mk T us :: r) = cBad 5 from by simp [cNumbers, tyT, tyArg, tyArgs, List.getD_cons_zero, List.getD_cons_succ, cCode, hT]]
      rw [encCR_bad (by decide)]
      refine QCalls.of Tryd.func38 rfl (fun args w => Tryd.call38 args w) (Nat.le_of_ble_eq_true rfl) [(0, .c (.int .i64 95)), (1, .c (.sl 2 (encTys (.mk T us :: r))))] rfl fun β hβ => ?_; have hf := Tryd.func38
      repeat' (first | refine st ?_ | (refine AK.condS rfl (fun h => ?_) (fun h => ?_) <;> first | (cases h; done) | rw [h] | skip) | refine uW hf rfl rfl ?_ | refine uC rfl hk ?_ | refine uI rfl (0) rfl (rfl) rfl ?_ | refine uI rfl (1) rfl (rfl) rfl ?_ | refine uI rfl (2) rfl (rfl) rfl ?_ | ((first | refine AOps.splitT rfl rfl rfl asm (fun h => ?_) | refine AOps.splitF rfl rfl rfl asm (fun h => ?_) | refine AOps.split rfl rfl rfl (fun h => ?_) (fun h => ?_)) <;> (fail_if_success (cases h; done)) <;> rw [h]))
      all_goals first | exact Wk.refl _ | exact wk_bad rfl rfl | exact wk_nil2
  by_cases p96 : 93 ≤ P
  · rw [show cNumbers P s = cBad 5 from by unfold cNumbers; rw [if_neg p93, if_neg p94, if_neg p95, if_pos p96]]
    rw [encCR_bad (by decide)]
    have e1 : (P == 93) = false := by simpa using p93
    have e2 : (P == 94) = false := by simpa using p94
    have e3 : (P == 95) = false := by simpa using p95
    have e4 : decide (P ≥ 93) = true := decide_eq_true p96
    refine QCalls.of Tryd.func38 rfl (fun args w => Tryd.call38 args w) (Nat.le_of_ble_eq_true rfl) [(0, .c (.int .i64 P)), (1, .c (.sl 2 (encTys s)))] rfl fun β hβ => ?_; have hf := Tryd.func38
    repeat' (first | refine st ?_ | (refine AK.condS rfl (fun h => ?_) (fun h => ?_) <;> first | (cases h; done) | rw [h] | skip) | refine uW hf rfl rfl ?_ | ((first | refine AOps.splitT rfl rfl rfl asm (fun h => ?_) | refine AOps.splitF rfl rfl rfl asm (fun h => ?_) | refine AOps.split rfl rfl rfl (fun h => ?_) (fun h => ?_)) <;> (fail_if_success (cases h; done)) <;> rw [h]))
    all_goals first | exact Wk.refl _ | exact wk_bad rfl rfl
  have hP4 : P = 69 ∨ P = 70 ∨ P = 71 ∨ P = 72 := by omega
  clear hP p93 p94 p95 p96
  rcases s with _ | ⟨⟨T, us⟩, _ | ⟨⟨U, vs⟩, q⟩⟩
  · rcases hP4 with rfl | rfl | rfl | rfl
    · skip
      rw [show cNumbers 69 ([]) = cBad 5 from by simp [cNumbers, tyT, tyArg, tyArgs, List.getD_cons_zero, List.getD_cons_succ, cCode]]
      rw [encCR_bad (by decide)]
      refine QCalls.of Tryd.func38 rfl (fun args w => Tryd.call38 args w) (Nat.le_of_ble_eq_true rfl) [(0, .c (.int .i64 69)), (1, .c (.sl 2 (encTys ([]))))] rfl fun β hβ => ?_; have hf := Tryd.func38
      repeat' (first | refine st ?_ | (refine AK.condS rfl (fun h => ?_) (fun h => ?_) <;> first | (cases h; done) | rw [h] | skip) | refine uW hf rfl rfl ?_ | refine uI rfl (0) rfl (rfl) rfl ?_ | refine uI rfl (1) rfl (rfl) rfl ?_ | refine uI rfl (2) rfl (rfl) rfl ?_ | ((first | refine AOps.splitT rfl rfl rfl asm (fun h => ?_) | refine AOps.splitF rfl rfl rfl asm (fun h => ?_) | refine AOps.split rfl rfl rfl (fun h => ?_) (fun h => ?_)) <;> (fail_if_success (cases h; done)) <;> rw [h]))
      all_goals first | exact Wk.refl _ | exact wk_bad rfl rfl | exact wk_nil2
    · skip
      rw [show cNumbers 70 ([]) = cBad 5 from by simp [cNumbers, tyT, tyArg, tyArgs, List.getD_cons_zero, List.getD_cons_succ, cCode]]
      rw [encCR_bad (by decide)]
      refine QCalls.of Tryd.func38 rfl (fun args w => Tryd.call38 args w) (Nat.le_of_ble_eq_true rfl) [(0, .c (.int .i64 70)), (1, .c (.sl 2 (encTys ([]))))] rfl fun β hβ => ?_; have hf := Tryd.func38
      repeat' (first | refine st ?_ | (refine AK.condS rfl (fun h => ?_) (fun h => ?_) <;> first | (cases h; done) | rw [h] | skip) | refine uW hf rfl rfl ?_ | refine uI rfl (0) rfl (rfl) rfl ?_ | refine uI rfl (1) rfl (rfl) rfl ?_ | refine uI rfl (2) rfl (rfl) rfl ?_ | ((first | refine AOps.splitT rfl rfl rfl asm (fun h => ?_) | refine AOps.splitF rfl rfl rfl asm (fun h => ?_) | refine AOps.split rfl rfl rfl (fun h => ?_) (fun h => ?_)) <;> (fail_if_success (cases h; done)) <;> rw [h]))
      all_goals first | exact Wk.refl _ | exact wk_bad rfl rfl | exact wk_nil2
    · skip
      rw [show cNumbers 71 ([]) = cBad 5 from by simp [cNumbers, tyT, tyArg, tyArgs, List.getD_cons_zero, List.getD_cons_succ, cCode]]
      rw [encCR_bad (by decide)]
      refine QCalls.of Tryd.func38 rfl (fun args w => Tryd.call38 args w) (Nat.le_of_ble_eq_true rfl) [(0, .c (.int .i64 71)), (1, .c (.sl 2 (encTys ([]))))] rfl fun β hβ => ?_; have hf := Tryd.func38
      repeat' (first | refine st ?_ | (refine AK.condS rfl (fun h => ?_) (fun h => ?_) <;> first | (cases h; done) | rw [h] | skip) | refine uW hf rfl rfl ?_ | refine uI rfl (0) rfl (rfl) rfl ?_ | refine uI rfl (1) rfl (rfl) rfl ?_ | refine uI rfl (2) rfl (rfl) rfl ?_ | ((first | refine AOps.splitT rfl rfl rfl asm (fun h => ?_) | refine AOps.splitF rfl rfl rfl asm (fun h => ?_) | refine AOps.split rfl rfl rfl (fun h => ?_) (fun h => ?_)) <;> (fail_if_success (cases h; done)) <;> rw [h]))
      all_goals first | exact Wk.refl _ | exact wk_bad rfl rfl | exact wk_nil2
    · skip
      rw [show cNumbers 72 ([]) = cBad 5 from by simp [cNumbers, tyT, tyArg, tyArgs, List.getD_cons_zero, List.getD_cons_succ, cCode]]
      rw [encCR_bad (by decide)]
      refine QCalls.of Tryd.func38 rfl (fun args w => Tryd.call38 args w) (Nat.le_of_ble_eq_true rfl) [(0, .c (.int .i64 72)), (1, .c (.sl 2 (encTys ([]))))] rfl fun β hβ => ?_; have hf := Tryd.func38
      repeat' (first | refine st ?_ | (refine AK.condS rfl (fun h => ?_) (fun h => ?_) <;> first | (cases h; done) | rw [h] | skip) | refine uW hf rfl rfl ?_ | refine uI rfl (0) rfl (rfl) rfl ?_ | refine uI rfl (1) rfl (rfl) rfl ?_ | refine uI rfl (2) rfl (rfl) rfl ?_ | ((first | refine AOps.splitT rfl rfl rfl asm (fun h => ?_) | refine AOps.splitF rfl rfl rfl asm (fun h => ?_) | refine AOps.split rfl rfl rfl (fun h => ?_) (fun h => ?_)) <;> (fail_if_success (cases h; done)) <;> rw [h]))
      all_goals first | exact Wk.refl _ | exact wk_bad rfl rfl | exact wk_nil2
  · rcases hP4 with rfl | rfl | rfl | rfl
    · skip
      rw [show cNumbers 69 ([.mk T us]) = cBad 5 from by simp [cNumbers, tyT, tyArg, tyArgs, List.getD_cons_zero, List.getD_cons_succ, cCode]]
      rw [encCR_bad (by decide)]
      refine QCalls.of Tryd.func38 rfl (fun args w => Tryd.call38 args w) (Nat.le_of_ble_eq_true rfl) [(0, .c (.int .i64 69)), (1, .c (.sl 2 (encTys ([.mk T us]))))] rfl fun β hβ => ?_; have hf := Tryd.func38
      repeat' (first | refine st ?_ | (refine AK.condS rfl (fun h => ?_) (fun h => ?_) <;> first | (cases h; done) | rw [h] | skip) | refine uW hf rfl rfl ?_ | refine uI rfl (0) rfl (rfl) rfl ?_ | refine uI rfl (1) rfl (rfl) rfl ?_ | refine uI rfl (2) rfl (rfl) rfl ?_ | ((first | refine AOps.splitT rfl rfl rfl asm (fun h => ?_) | refine AOps.splitF rfl rfl rfl asm (fun h => ?_) | refine AOps.split rfl rfl rfl (fun h => ?_) (fun h => ?_)) <;> (fail_if_success (cases h; done)) <;> rw [h]))
      all_goals first | exact Wk.refl _ | exact wk_bad rfl rfl | exact wk_nil2
    · skip
      rw [show cNumbers 70 ([.mk T us]) = cBad 5 from by simp [cNumbers, tyT, tyArg, tyArgs, List.getD_cons_zero, List.getD_cons_succ, cCode]]
      rw [encCR_bad (by decide)]
      refine QCalls.of Tryd.func38 rfl (fun args w => Tryd.call38 args w) (Nat.le_of_ble_eq_true rfl) [(0, .c (.int .i64 70)), (1, .c (.sl 2 (encTys ([.mk T us]))))] rfl fun β hβ => ?_; have hf := Tryd.func38
      repeat' (first | refine st ?_ | (refine AK.condS rfl (fun h => ?_) (fun h => ?_) <;> first | (cases h; done) | rw [h] | skip) | refine uW hf rfl rfl ?_ | refine uI rfl (0) rfl (rfl) rfl ?_ | refine uI rfl (1) rfl (rfl) rfl ?_ | refine uI rfl (2) rfl (rfl) rfl ?_ | ((first | refine AOps.splitT rfl rfl rfl asm (fun h => ?_) | refine AOps.splitF rfl rfl rfl asm (fun h => ?_) | refine AOps.split rfl rfl rfl (fun h => ?_) (fun h => ?_)) <;> (fail_if_success (cases h; done)) <;> rw [h]))
      all_goals first | exact Wk.refl _ | exact wk_bad rfl rfl | exact wk_nil2
    · skip
      rw [show cNumbers 71 ([.mk T us]) = cBad 5 from by simp [cNumbers, tyT, tyArg, tyArgs, List.getD_cons_zero, List.getD_cons_succ, cCode]]
      rw [encCR_bad (by decide)]
      refine QCalls.of Tryd.func38 rfl (fun args w => Tryd.call38 args w) (Nat.le_of_ble_eq_true rfl) [(0, .c (.int .i64 71)), (1, .c (.sl 2 (encTys ([.mk T us]))))] rfl fun β hβ => ?_; have hf := Tryd.func38
      repeat' (first | refine st ?_ | (refine AK.condS rfl (fun h => ?_) (fun h => ?_) <;> first | (cases h; done) | rw [h] | skip) | refine uW hf rfl rfl ?_ | refine uI rfl (0) rfl (rfl) rfl ?_ | refine uI rfl (1) rfl (rfl) rfl ?_ | refine uI rfl (2) rfl (rfl) rfl ?_ | ((first | refine AOps.splitT rfl rfl rfl asm (fun h => ?_) | refine AOps.splitF rfl rfl rfl asm (fun h => ?_) | refine AOps.split rfl rfl rfl (fun h => ?_) (fun h => ?_)) <;> (fail_if_success (cases h; done)) <;> rw [h]))
      all_goals first | exact Wk.refl _ | exact wk_bad rfl rfl | exact wk_nil2
    · skip
      rw [show cNumbers 72 ([.mk T us]) = cBad 5 from by simp [cNumbers, tyT, tyArg, tyArgs, List.getD_cons_zero, List.getD_cons_succ, cCode]]
      rw [encCR_bad (by decide)]
      refine QCalls.of Tryd.func38 rfl (fun args w => Tryd.call38 args w) (Nat.le_of_ble_eq_true rfl) [(0, .c (.int .i64 72)), (1, .c (.sl 2 (encTys ([.mk T us]))))] rfl fun β hβ => ?_; have hf := Tryd.func38
      repeat' (first | refine st ?_ | (refine AK.condS rfl (fun h => ?_) (fun h => ?_) <;> first | (cases h; done) | rw [h] | skip) | refine uW hf rfl rfl ?_ | refine uI rfl (0) rfl (rfl) rfl ?_ | refine uI rfl (1) rfl (rfl) rfl ?_ | refine uI rfl (2) rfl (rfl) rfl ?_ | ((first | refine AOps.splitT rfl rfl rfl asm (fun h => ?_) | refine AOps.splitF rfl rfl rfl asm (fun h => ?_) | refine AOps.split rfl rfl rfl (fun h => ?_) (fun h => ?_)) <;> (fail_if_success (cases h; done)) <;> rw [h]))
      all_goals first | exact Wk.refl _ | exact wk_bad rfl rfl | exact wk_nil2
  have hsum := csum_calls P T U hP4
  have hsp : ∀ t, cSum P T U = t → cNumbers P (.mk T us :: .mk U vs :: q) = (if t = 0 then cBad 5 else if P = 70 ∧ t = 5 then cOk (.mk 9 [.mk 5 []] :: q) else if P ≠ 72 then cOk (.mk t [] :: q)
      else cOk (.mk 9 [.mk 11 [.mk (if T = 5 ∧ U = 5 then 4 else t) [], .mk (if T = 5 then 5 else 4) []]] :: q)) := by
    rintro t rfl
    conv => lhs; unfold cNumbers
    rw [if_neg (by omega), if_neg (by omega), if_neg (by omega), if_neg (by omega)]
    rfl
  generalize cSum P T U = t at hsum hsp
  rw [hsp t rfl]
  clear hsp
  simp only [List.length_cons] at hl
  by_cases ht : t = 0
  · subst ht
    rw [if_pos rfl, encCR_bad (by decide)]
    rcases hP4 with rfl | rfl | rfl | rfl
    all_goals
      refine QCalls.of Tryd.func38 rfl (fun args w => Tryd.call38 args w) (Nat.le_of_ble_eq_true rfl) [(0, .c (.int .i64 _)), (1, .c (.sl 2 (encTys (.mk T us :: .mk U vs :: q))))] rfl fun β hβ => ?_; have hf := Tryd.func38
      repeat' (first | refine st ?_ | (refine AK.condS rfl (fun h => ?_) (fun h => ?_) <;> first | (cases h; done) | rw [h] | skip) | refine uW hf rfl rfl ?_ | refine uC rfl hsum ?_ | refine uI rfl (0) rfl (rfl) rfl ?_ | refine uI rfl (1) rfl (rfl) rfl ?_ | ((first | refine AOps.splitT rfl rfl rfl asm (fun h => ?_) | refine AOps.splitF rfl rfl rfl asm (fun h => ?_) | refine AOps.split rfl rfl rfl (fun h => ?_) (fun h => ?_)) <;> (fail_if_success (cases h; done)) <;> rw [h]))
      all_goals first | exact Wk.refl _ | exact wk_bad rfl rfl
  rw [if_neg ht]
  have e1 : (t == 0) = false := by simpa using ht
  rcases hP4 with rfl | rfl | rfl | rfl
  · rw [if_neg (by omega), if_pos (by decide)]
    have hp := cput_calls (q) [.mk t []]
    rw [encCR_ok'] at hp
    rw [encCR_ok']
    refine QCalls.of Tryd.func38 rfl (fun args w => Tryd.call38 args w) (Nat.le_of_ble_eq_true rfl) [(0, .c (.int .i64 69)), (1, .c (.sl 2 (encTys (.mk T us :: .mk U vs :: q))))] rfl fun β hβ => ?_; have hf := Tryd.func38
    repeat' (first | refine st ?_ | (refine AK.condS rfl (fun h => ?_) (fun h => ?_) <;> first | (cases h; done) | rw [h] | skip) | refine uW hf rfl rfl ?_ | refine uC rfl hsum ?_ | refine uC rfl hp ?_ | refine uC rfl (one0_calls t) ?_ | refine uI rfl (0) rfl (rfl) rfl ?_ | refine uI rfl (1) rfl (rfl) rfl ?_ | ((first | refine AOps.splitT rfl rfl rfl asm (fun h => ?_) | refine AOps.splitF rfl rfl rfl asm (fun h => ?_) | refine AOps.split rfl rfl rfl (fun h => ?_) (fun h => ?_)) <;> (fail_if_success (cases h; done)) <;> rw [h]))
    all_goals first | exact Wk.refl _ | exact wk_bad rfl rfl
  · by_cases h5 : t = 5
    · subst h5
      rw [if_pos ⟨rfl, rfl⟩]
      have hp := cput_calls (q) [.mk 9 [.mk 5 []]]
      rw [encCR_ok'] at hp
      rw [encCR_ok']
      refine QCalls.of Tryd.func38 rfl (fun args w => Tryd.call38 args w) (Nat.le_of_ble_eq_true rfl) [(0, .c (.int .i64 70)), (1, .c (.sl 2 (encTys (.mk T us :: .mk U vs :: q))))] rfl fun β hβ => ?_; have hf := Tryd.func38
      repeat' (first | refine st ?_ | (refine AK.condS rfl (fun h => ?_) (fun h => ?_) <;> first | (cases h; done) | rw [h] | skip) | refine uW hf rfl rfl ?_ | refine uC rfl hsum ?_ | refine uC rfl hp ?_ | refine uC rfl (one0_calls 5) ?_ | refine uC rfl (one_calls 9 [.mk 5 []]) ?_ | refine uI rfl (0) rfl (rfl) rfl ?_ | refine uI rfl (1) rfl (rfl) rfl ?_ | ((first | refine AOps.splitT rfl rfl rfl asm (fun h => ?_) | refine AOps.splitF rfl rfl rfl asm (fun h => ?_) | refine AOps.split rfl rfl rfl (fun h => ?_) (fun h => ?_)) <;> (fail_if_success (cases h; done)) <;> rw [h]))
      all_goals first | exact Wk.refl _ | exact wk_bad rfl rfl
    · have e2 : (t == 5) = false := by simpa using h5
      rw [if_neg (fun h => h5 h.2), if_pos (by decide)]
      have hp := cput_calls (q) [.mk t []]
      rw [encCR_ok'] at hp
      rw [encCR_ok']
      refine QCalls.of Tryd.func38 rfl (fun args w => Tryd.call38 args w) (Nat.le_of_ble_eq_true rfl) [(0, .c (.int .i64 70)), (1, .c (.sl 2 (encTys (.mk T us :: .mk U vs :: q))))] rfl fun β hβ => ?_; have hf := Tryd.func38
      repeat' (first | refine st ?_ | (refine AK.condS rfl (fun h => ?_) (fun h => ?_) <;> first | (cases h; done) | rw [h] | skip) | refine uW hf rfl rfl ?_ | refine uC rfl hsum ?_ | refine uC rfl hp ?_ | refine uC rfl (one0_calls t) ?_ | refine uI rfl (0) rfl (rfl) rfl ?_ | refine uI rfl (1) rfl (rfl) rfl ?_ | ((first | refine AOps.splitT rfl rfl rfl asm (fun h => ?_) | refine AOps.splitF rfl rfl rfl asm (fun h => ?_) | refine AOps.split rfl rfl rfl (fun h => ?_) (fun h => ?_)) <;> (fail_if_success (cases h; done)) <;> rw [h]))
      all_goals first | exact Wk.refl _ | exact wk_bad rfl rfl
  · rw [if_neg (by omega), if_pos (by decide)]
    have hp := cput_calls (q) [.mk t []]
    rw [encCR_ok'] at hp
    rw [encCR_ok']
    refine QCalls.of Tryd.func38 rfl (fun args w => Tryd.call38 args w) (Nat.le_of_ble_eq_true rfl) [(0, .c (.int .i64 71)), (1, .c (.sl 2 (encTys (.mk T us :: .mk U vs :: q))))] rfl fun β hβ => ?_; have hf := Tryd.func38
    repeat' (first | refine st ?_ | (refine AK.condS rfl (fun h => ?_) (fun h => ?_) <;> first | (cases h; done) | rw [h] | skip) | refine uW hf rfl rfl ?_ | refine uC rfl hsum ?_ | refine uC rfl hp ?_ | refine uC rfl (one0_calls t) ?_ | refine uI rfl (0) rfl (rfl) rfl ?_ | refine uI rfl (1) rfl (rfl) rfl ?_ | ((first | refine AOps.splitT rfl rfl rfl asm (fun h => ?_) | refine AOps.splitF rfl rfl rfl asm (fun h => ?_) | refine AOps.split rfl rfl rfl (fun h => ?_) (fun h => ?_)) <;> (fail_if_success (cases h; done)) <;> rw [h]))
    all_goals first | exact Wk.refl _ | exact wk_bad rfl rfl
  · rw [if_neg (by omega), if_neg (by decide)]
    by_cases hT : T = 5
    · subst hT
      by_cases hU : U = 5
      · subst hU
        rw [if_pos ⟨rfl, rfl⟩, if_pos rfl]
        have hp := cput_calls (q) [.mk 9 [.mk 11 [.mk 4 [], .mk 5 []]]]
        rw [encCR_ok'] at hp
        rw [encCR_ok']
        refine QCalls.of Tryd.func38 rfl (fun args w => Tryd.call38 args w) (Nat.le_of_ble_eq_true rfl) [(0, .c (.int .i64 72)), (1, .c (.sl 2 (encTys (.mk 5 us :: .mk 5 vs :: q))))] rfl fun β hβ => ?_; have hf := Tryd.func38
        repeat' (first | refine st ?_ | (refine AK.condS rfl (fun h => ?_) (fun h => ?_) <;> first | (cases h; done) | rw [h] | skip) | refine uW hf rfl rfl ?_ | refine uC rfl hsum ?_ | refine uC rfl hp ?_ | refine uC rfl (one0_calls 4) ?_ | refine uC rfl (one0_calls 5) ?_ | refine uC rfl (one_calls 11 [.mk 4 [], .mk 5 []]) ?_ | refine uC rfl (one_calls 9 [.mk 11 [.mk 4 [], .mk 5 []]]) ?_ | refine uI rfl (0) rfl (rfl) rfl ?_ | refine uI rfl (1) rfl (rfl) rfl ?_ | ((first | refine AOps.splitT rfl rfl rfl asm (fun h => ?_) | refine AOps.splitF rfl rfl rfl asm (fun h => ?_) | refine AOps.split rfl rfl rfl (fun h => ?_) (fun h => ?_)) <;> (fail_if_success (cases h; done)) <;> rw [h]))
        all_goals first | exact Wk.refl _ | exact wk_bad rfl rfl
      · have e2 : (U == 5) = false := by simpa using hU
        rw [if_neg (fun h => hU h.2), if_pos rfl]
        have hp := cput_calls (q) [.mk 9 [.mk 11 [.mk t [], .mk 5 []]]]
        rw [encCR_ok'] at hp
        rw [encCR_ok']
        refine QCalls.of Tryd.func38 rfl (fun args w => Tryd.call38 args w) (Nat.le_of_ble_eq_true rfl) [(0, .c (.int .i64 72)), (1, .c (.sl 2 (encTys (.mk 5 us :: .mk U vs :: q))))] rfl fun β hβ => ?_; have hf := Tryd.func38
        repeat' (first | refine st ?_ | (refine AK.condS rfl (fun h => ?_) (fun h => ?_) <;> first | (cases h; done) | rw [h] | skip) | refine uW hf rfl rfl ?_ | refine uC rfl hsum ?_ | refine uC rfl hp ?_ | refine uC rfl (one0_calls 4) ?_ | refine uC rfl (one0_calls 5) ?_ | refine uC rfl (one0_calls t) ?_ | refine uC rfl (one_calls 11 [.mk t [], .mk 5 []]) ?_ | refine uC rfl (one_calls 9 [.mk 11 [.mk t [], .mk 5 []]]) ?_ | refine uI rfl (0) rfl (rfl) rfl ?_ | refine uI rfl (1) rfl (rfl) rfl ?_ | ((first | refine AOps.splitT rfl rfl rfl asm (fun h => ?_) | refine AOps.splitF rfl rfl rfl asm (fun h => ?_) | refine AOps.split rfl rfl rfl (fun h => ?_) (fun h => ?_)) <;> (fail_if_success (cases h; done)) <;> rw [h]))
        all_goals first | exact Wk.refl _ | exact wk_bad rfl rfl
    · have e2 : (T == 5) = false := by simpa using hT
      rw [if_neg (fun h => hT h.1), if_neg hT]
      have hp := cput_calls (q) [.mk 9 [.mk 11 [.mk t [], .mk 4 []]]]
      rw [encCR_ok'] at hp
      rw [encCR_ok']
      refine QCalls.of Tryd.func38 rfl (fun args w => Tryd.call38 args w) (Nat.le_of_ble_eq_true rfl) [(0, .c (.int .i64 72)), (1, .c (.sl 2 (encTys (.mk T us :: .mk U vs :: q))))] rfl fun β hβ => ?_; have hf := Tryd.func38
      repeat' (first | refine st ?_ | (refine AK.condS rfl (fun h => ?_) (fun h => ?_) <;> first | (cases h; done) | rw [h] | skip) | refine uW hf rfl rfl ?_ | refine uC rfl hsum ?_ | refine uC rfl hp ?_ | refine uC rfl (one0_calls 4) ?_ | refine uC rfl (one0_calls t) ?_ | refine uC rfl (one_calls 11 [.mk t [], .mk 4 []]) ?_ | refine uC rfl (one_calls 9 [.mk 11 [.mk t [], .mk 4 []]]) ?_ | refine uI rfl (0) rfl (rfl) rfl ?_ | refine uI rfl (1) rfl (rfl) rfl ?_ | ((first | refine AOps.splitT rfl rfl rfl asm (fun h => ?_) | refine AOps.splitF rfl rfl rfl asm (fun h => ?_) | refine AOps.split rfl rfl rfl (fun h => ?_) (fun h => ?_)) <;> (fail_if_success (cases h; done)) <;> rw [h]))
      all_goals first | exact Wk.refl _ | exact wk_bad rfl rfl
end Go.Proofs

-- WK
set_option linter.unusedVariables false
set_option linter.unusedSimpArgs false
namespace Go.Proofs
open Go.Abs
attribute [local irreducible] AK AOps QCalls ECalls tParse tComp tCopy tPack tStore tGood cRow cStep cCodes nMints tPar

set_option maxHeartbeats 0 in
theorem cdata_calls (P : Int) (args : List Nd) (types s : List Ty) (hP : 73 ≤ P ∧ P ≤ 83) (hf : cFits P args = some types) (hs : sOk s) (hl : s.length ≤ 9999999990) : QCalls Tryd.prog Tryd.X 39 [.int .i64 P, .sl 2 (encTys types), .sl 2 (encTys s)] (encCR (cData P types s)) := by
  have hP2 : P = 73 ∨ P = 74 ∨ P = 75 ∨ P = 76 ∨ P = 77 ∨ P = 78 ∨ P = 79 ∨ P = 80 ∨ P = 81 ∨ P = 82 ∨ P = 83 := by omega
  clear hP
  rcases hP2 with rfl | rfl | rfl | rfl | rfl | rfl | rfl | rfl | rfl | rfl | rfl
  · obtain ⟨rfl, rfl⟩ := cFits_nil hf rfl
    clear hf
    rcases s with _ | ⟨⟨T, us⟩, _ | ⟨⟨U, vs⟩, q⟩⟩
    · skip
      rw [show cData 73 ([]) ([]) = cBad 5 from by simp [cData, tyT, tyArg, tyArgs, List.getD_cons_zero, List.getD_cons_succ, cCode]]
      rw [encCR_bad (by decide)]
      refine QCalls.of Tryd.func39 rfl (fun args w => Tryd.call39 args w) (Nat.le_of_ble_eq_true rfl) [(0, .c (.int .i64 73)), (1, .c (.sl 2 (encTys ([])))), (2, .c (.sl 2 (encTys ([]))))] rfl fun β hβ => ?_; have hf := Tryd.func39
      repeat' (first | refine st ?_ | (refine AK.condS rfl (fun h => ?_) (fun h => ?_) <;> first | (cases h; done) | rw [h] | skip) | refine uW hf rfl rfl ?_ | refine uI rfl (0) rfl (rfl) rfl ?_ | refine uI rfl (1) rfl (rfl) rfl ?_ | refine uI rfl (2) rfl (rfl) rfl ?_ | ((first | refine AOps.splitT rfl rfl rfl asm (fun h => ?_) | refine AOps.splitF rfl rfl rfl asm (fun h => ?_) | refine AOps.split rfl rfl rfl (fun h => ?_) (fun h => ?_)) <;> (fail_if_success (cases h; done)) <;> rw [h]))
      all_goals first | exact Wk.refl _ | exact wk_bad rfl rfl | exact wk_nil2
    · skip
      rw [show cData 73 ([]) ([.mk T us]) = cBad 5 from by simp [cData, tyT, tyArg, tyArgs, List.getD_cons_zero, List.getD_cons_succ, cCode]]
      rw [encCR_bad (by decide)]
      refine QCalls.of Tryd.func39 rfl (fun args w => Tryd.call39 args w) (Nat.le_of_ble_eq_true rfl) [(0, .c (.int .i64 73)), (1, .c (.sl 2 (encTys ([])))), (2, .c (.sl 2 (encTys ([.mk T us]))))] rfl fun β hβ => ?_; have hf := Tryd.func39
      repeat' (first | refine st ?_ | (refine AK.condS rfl (fun h => ?_) (fun h => ?_) <;> first | (cases h; done) | rw [h] | skip) | refine uW hf rfl rfl ?_ | refine uI rfl (0) rfl (rfl) rfl ?_ | refine uI rfl (1) rfl (rfl) rfl ?_ | refine uI rfl (2) rfl (rfl) rfl ?_ | ((first | refine AOps.splitT rfl rfl rfl asm (fun h => ?_) | refine AOps.splitF rfl rfl rfl asm (fun h => ?_) | refine AOps.split rfl rfl rfl (fun h => ?_) (fun h => ?_)) <;> (fail_if_success (cases h; done)) <;> rw [h]))
      all_goals first | exact Wk.refl _ | exact wk_bad rfl rfl | exact wk_nil2
    have h1 := Same_calls (.mk T us) (.mk U vs) (by have := (hs (.mk T us) (by simp)).2; omega)
    have h2 := Comparable_calls (.mk T us) (by have := (hs (.mk T us) (by simp)).2; omega)
    cases g1 : tySame (.mk T us) (.mk U vs)
    · rw [g1] at h1
      rw [show cData 73 ([]) (.mk T us :: .mk U vs :: q) = cBad 5 from by simp [cData, tyT, tyArg, tyArgs, List.getD_cons_zero, List.getD_cons_succ, cCode, g1]]
      rw [encCR_bad (by decide)]
      refine QCalls.of Tryd.func39 rfl (fun args w => Tryd.call39 args w) (Nat.le_of_ble_eq_true rfl) [(0, .c (.int .i64 73)), (1, .c (.sl 2 (encTys ([])))), (2, .c (.sl 2 (encTys (.mk T us :: .mk U vs :: q))))] rfl fun β hβ => ?_; have hf := Tryd.func39
      repeat' (first | refine st ?_ | (refine AK.condS rfl (fun h => ?_) (fun h => ?_) <;> first | (cases h; done) | rw [h] | skip) | refine uW hf rfl rfl ?_ | refine uC rfl h1 ?_ | refine uC rfl h2 ?_ | refine uI rfl (0) rfl (rfl) rfl ?_ | refine uI rfl (1) rfl (rfl) rfl ?_ | refine uI rfl (2) rfl (rfl) rfl ?_ | ((first | refine AOps.splitT rfl rfl rfl asm (fun h => ?_) | refine AOps.splitF rfl rfl rfl asm (fun h => ?_) | refine AOps.split rfl rfl rfl (fun h => ?_) (fun h => ?_)) <;> (fail_if_success (cases h; done)) <;> rw [h]))
      all_goals first | exact Wk.refl _ | exact wk_bad rfl rfl | exact wk_nil2
    cases g2 : tComp (.mk T us)
    · rw [g1] at h1; rw [g2] at h2
      rw [show cData 73 ([]) (.mk T us :: .mk U vs :: q) = cBad 5 from by simp [cData, tyT, tyArg, tyArgs, List.getD_cons_zero, List.getD_cons_succ, cCode, g1, g2]]
      rw [encCR_bad (by decide)]
      refine QCalls.of Tryd.func39 rfl (fun args w => Tryd.call39 args w) (Nat.le_of_ble_eq_true rfl) [(0, .c (.int .i64 73)), (1, .c (.sl 2 (encTys ([])))), (2, .c (.sl 2 (encTys (.mk T us :: .mk U vs :: q))))] rfl fun β hβ => ?_; have hf := Tryd.func39
      repeat' (first | refine st ?_ | (refine AK.condS rfl (fun h => ?_) (fun h => ?_) <;> first | (cases h; done) | rw [h] | skip) | refine uW hf rfl rfl ?_ | refine uC rfl h1 ?_ | refine uC rfl h2 ?_ | refine uI rfl (0) rfl (rfl) rfl ?_ | refine uI rfl (1) rfl (rfl) rfl ?_ | refine uI rfl (2) rfl (rfl) rfl ?_ | ((first | refine AOps.splitT rfl rfl rfl asm (fun h => ?_) | refine AOps.splitF rfl rfl rfl asm (fun h => ?_) | refine AOps.split rfl rfl rfl (fun h => ?_) (fun h => ?_)) <;> (fail_if_success (cases h; done)) <;> rw [h]))
      all_goals first | exact Wk.refl _ | exact wk_bad rfl rfl | exact wk_nil2
    · rw [g1] at h1; rw [g2] at h2
      have el1 := len_gt (encTys (.mk T us :: .mk U vs :: q)) 1 (by simp only [encTys, List.length_cons]; omega)
      have hp := cput_calls (q) [.mk 3 []]
      rw [encCR_ok'] at hp
      rw [show cData 73 ([]) (.mk T us :: .mk U vs :: q) = cOk (.mk 3 [] :: q) from by simp [cData, tyT, tyArg, tyArgs, List.getD_cons_zero, List.getD_cons_succ, cCode, g1, g2]]
      rw [encCR_ok']
      refine QCalls.of Tryd.func39 rfl (fun args w => Tryd.call39 args w) (Nat.le_of_ble_eq_true rfl) [(0, .c (.int .i64 73)), (1, .c (.sl 2 (encTys ([])))), (2, .c (.sl 2 (encTys (.mk T us :: .mk U vs :: q))))] rfl fun β hβ => ?_; have hf := Tryd.func39
      repeat' (first | refine st ?_ | (refine AK.condS rfl (fun h => ?_) (fun h => ?_) <;> first | (cases h; done) | rw [h] | skip) | refine uW hf rfl rfl ?_ | refine uC rfl h1 ?_ | refine uC rfl h2 ?_ | refine uC rfl hp ?_ | refine uC rfl (one0_calls 3) ?_ | refine uI rfl (0) rfl (rfl) rfl ?_ | refine uI rfl (1) rfl (rfl) rfl ?_ | refine uI rfl (2) rfl (rfl) rfl ?_ | ((first | refine AOps.splitT rfl rfl rfl asm (fun h => ?_) | refine AOps.splitF rfl rfl rfl asm (fun h => ?_) | refine AOps.split rfl rfl rfl (fun h => ?_) (fun h => ?_)) <;> (fail_if_success (cases h; done)) <;> rw [h]))
      all_goals first | exact Wk.refl _ | exact wk_bad rfl rfl | exact wk_nil2
  · obtain ⟨rfl, rfl⟩ := cFits_nil hf rfl
    clear hf
    rcases s with _ | ⟨⟨T, us⟩, r⟩
    · skip
      have hk := ckinds_calls ([]) [3]
      rw [show kOk ([]) [3] = false from by (simp [kOk_c, kOk_n, kOk_end]) <;> assumption] at hk
      rw [show cData 74 ([]) ([]) = cBad 5 from by simp [cData, tyT, tyArg, tyArgs, List.getD_cons_zero, List.getD_cons_succ, cCode]]
      rw [encCR_bad (by decide)]
      refine QCalls.of Tryd.func39 rfl (fun args w => Tryd.call39 args w) (Nat.le_of_ble_eq_true rfl) [(0, .c (.int .i64 74)), (1, .c (.sl 2 (encTys ([])))), (2, .c (.sl 2 (encTys ([]))))] rfl fun β hβ => ?_; have hf := Tryd.func39
      repeat' (first | refine st ?_ | (refine AK.condS rfl (fun h => ?_) (fun h => ?_) <;> first | (cases h; done) | rw [h] | skip) | refine uW hf rfl rfl ?_ | refine uC rfl hk ?_ | refine uI rfl (0) rfl (rfl) rfl ?_ | refine uI rfl (1) rfl (rfl) rfl ?_ | refine uI rfl (2) rfl (rfl) rfl ?_ | ((first | refine AOps.splitT rfl rfl rfl asm (fun h => ?_) | refine AOps.splitF rfl rfl rfl asm (fun h => ?_) | refine AOps.split rfl rfl rfl (fun h => ?_) (fun h => ?_)) <;> (fail_if_success (cases h; done)) <;> rw [h]))
      all_goals first | exact Wk.refl _ | exact wk_bad rfl rfl | exact wk_nil2
    by_cases hT : T = 3
    · subst hT
      have hk := ckinds_calls (.mk 3 us :: r) [3]
      rw [show kOk (.mk 3 us :: r) [3] = true from by (simp [kOk_c, kOk_n, kOk_end]) <;> assumption] at hk
      have hp := cput_calls (r) [.mk 2 []]
      rw [encCR_ok'] at hp
      rw [show cData 74 ([]) (.mk 3 us :: r) = cOk (.mk 2 [] :: r) from by simp [cData, tyT, tyArg, tyArgs, List.getD_cons_zero, List.getD_cons_succ, cCode]]
      rw [encCR_ok']
      refine QCalls.of Tryd.func39 rfl (fun args w => Tryd.call39 args w) (Nat.le_of_ble_eq_true rfl) [(0, .c (.int .i64 74)), (1, .c (.sl 2 (encTys ([])))), (2, .c (.sl 2 (encTys (.mk 3 us :: r))))] rfl fun β hβ => ?_; have hf := Tryd.func39
      repeat' (first | refine st ?_ | (refine AK.condS rfl (fun h => ?_) (fun h => ?_) <;> first | (cases h; done) | rw [h] | skip) | refine uW hf rfl rfl ?_ | refine uC rfl hk ?_ | refine uC rfl hp ?_ | refine uC rfl (one0_calls 2) ?_ | refine uI rfl (0) rfl (rfl) rfl ?_ | refine uI rfl (1) rfl (rfl) rfl ?_ | refine uI rfl (2) rfl (rfl) rfl ?_ | ((first | refine AOps.splitT rfl rfl rfl asm (fun h => ?_) | refine AOps.splitF rfl rfl rfl asm (fun h => ?_) | refine AOps.split rfl rfl rfl (fun h => ?_) (fun h => ?_)) <;> (fail_if_success (cases h; done)) <;> rw [h]))
      all_goals first | exact Wk.refl _ | exact wk_bad rfl rfl | exact wk_nil2
    · skip
      have hk := ckinds_calls (.mk T us :: r) [3]
      rw [show kOk (.mk T us :: r) [3] = false from by (simp [kOk_c, kOk_n, kOk_end, hT]) <;> assumption] at hk
      rw [show cData 74 ([]) (.mk T us :: r) = cBad 5 from by simp [cData, tyT, tyArg, tyArgs, List.getD_cons_zero, List.getD_cons_succ, cCode, hT]]
      rw [encCR_bad (by decide)]
      refine QCalls.of Tryd.func39 rfl (fun args w => Tryd.call39 args w) (Nat.le_of_ble_eq_true rfl) [(0, .c (.int .i64 74)), (1, .c (.sl 2 (encTys ([])))), (2, .c (.sl 2 (encTys (.mk T us :: r))))] rfl fun β hβ => ?_; have hf := Tryd.func39
      repeat' (first | refine st ?_ | (refine AK.condS rfl (fun h => ?_) (fun h => ?_) <;> first | (cases h; done) | rw [h] | skip) | refine uW hf rfl rfl ?_ | refine uC rfl hk ?_ | refine uI rfl (0) rfl (rfl) rfl ?_ | refine uI rfl (1) rfl (rfl) rfl ?_ | refine uI rfl (2) rfl (rfl) rfl ?_ | ((first | refine AOps.splitT rfl rfl rfl asm (fun h => ?_) | refine AOps.splitF rfl rfl rfl asm (fun h => ?_) | refine AOps.split rfl rfl rfl (fun h => ?_) (fun h => ?_)) <;> (fail_if_success (cases h; done)) <;> rw [h]))
      all_goals first | exact Wk.refl _ | exact wk_bad rfl rfl | exact wk_nil2
  · obtain ⟨rfl, rfl⟩ := cFits_nil hf rfl
    clear hf
    rcases s with _ | ⟨⟨T, us⟩, r⟩
    · skip
      have hk := ckinds_calls ([]) [3]
      rw [show kOk ([]) [3] = false from by (simp [kOk_c, kOk_n, kOk_end]) <;> assumption] at hk
      rw [show cData 75 ([]) ([]) = cBad 5 from by simp [cData, tyT, tyArg, tyArgs, List.getD_cons_zero, List.getD_cons_succ, cCode]]
      rw [encCR_bad (by decide)]
      refine QCalls.of Tryd.func39 rfl (fun args w => Tryd.call39 args w) (Nat.le_of_ble_eq_true rfl) [(0, .c (.int .i64 75)), (1, .c (.sl 2 (encTys ([])))), (2, .c (.sl 2 (encTys ([]))))] rfl fun β hβ => ?_; have hf := Tryd.func39
      repeat' (first | refine st ?_ | (refine AK.condS rfl (fun h => ?_) (fun h => ?_) <;> first | (cases h; done) | rw [h] | skip) | refine uW hf rfl rfl ?_ | refine uC rfl hk ?_ | refine uI rfl (0) rfl (rfl) rfl ?_ | refine uI rfl (1) rfl (rfl) rfl ?_ | refine uI rfl (2) rfl (rfl) rfl ?_ | ((first | refine AOps.splitT rfl rfl rfl asm (fun h => ?_) | refine AOps.splitF rfl rfl rfl asm (fun h => ?_) | refine AOps.split rfl rfl rfl (fun h => ?_) (fun h => ?_)) <;> (fail_if_success (cases h; done)) <;> rw [h]))
      all_goals first | exact Wk.refl _ | exact wk_bad rfl rfl | exact wk_nil2
    by_cases hT : T = 3
    · subst hT
      have hk := ckinds_calls (.mk 3 us :: r) [3]
      rw [show kOk (.mk 3 us :: r) [3] = true from by (simp [kOk_c, kOk_n, kOk_end]) <;> assumption] at hk
      have hp := cput_calls (r) [.mk 2 []]
      rw [encCR_ok'] at hp
      rw [show cData 75 ([]) (.mk 3 us :: r) = cOk (.mk 2 [] :: r) from by simp [cData, tyT, tyArg, tyArgs, List.getD_cons_zero, List.getD_cons_succ, cCode]]
      rw [encCR_ok']
      refine QCalls.of Tryd.func39 rfl (fun args w => Tryd.call39 args w) (Nat.le_of_ble_eq_true rfl) [(0, .c (.int .i64 75)), (1, .c (.sl 2 (encTys ([])))), (2, .c (.sl 2 (encTys (.mk 3 us :: r))))] rfl fun β hβ => ?_; have hf := Tryd.func39
      repeat' (first | refine st ?_ | (refine AK.condS rfl (fun h => ?_) (fun h => ?_) <;> first | (cases h; done) | rw [h] | skip) | refine uW hf rfl rfl ?_ | refine uC rfl hk ?_ | refine uC rfl hp ?_ | refine uC rfl (one0_calls 2) ?_ | refine uI rfl (0) rfl (rfl) rfl ?_ | refine uI rfl (1) rfl (rfl) rfl ?_ | refine uI rfl (2) rfl (rfl) rfl ?_ | ((first | refine AOps.splitT rfl rfl rfl asm (fun h => ?_) | refine AOps.splitF rfl rfl rfl asm (fun h => ?_) | refine AOps.split rfl rfl rfl (fun h => ?_) (fun h => ?_)) <;> (fail_if_success (cases h; done)) <;> rw [h]))
      all_goals first | exact Wk.refl _ | exact wk_bad rfl rfl | exact wk_nil2
    · skip
      have hk := ckinds_calls (.mk T us :: r) [3]
      rw [show kOk (.mk T us :: r) [3] = false from by (simp [kOk_c, kOk_n, kOk_end, hT]) <;> assumption] at hk
      rw [show cData 75 ([]) (.mk T us :: r) = cBad 5 from by simp [cData, tyT, tyArg, tyArgs, List.getD_cons_zero, List.getD_cons_succ, cCode, hT]]
      rw [encCR_bad (by decide)]
      refine QCalls.of Tryd.func39 rfl (fun args w => Tryd.call39 args w) (Nat.le_of_ble_eq_true rfl) [(0, .c (.int .i64 75)), (1, .c (.sl 2 (encTys ([])))), (2, .c (.sl 2 (encTys (.mk T us :: r))))] rfl fun β hβ => ?_; have hf := Tryd.func39
      repeat' (first | refine st ?_ | (refine AK.condS rfl (fun h => ?_) (fun h => ?_) <;> first | (cases h; done) | rw [h] | skip) | refine uW hf rfl rfl ?_ | refine uC rfl hk ?_ | refine uI rfl (0) rfl (rfl) rfl ?_ | refine uI rfl (1) rfl (rfl) rfl ?_ | refine uI rfl (2) rfl (rfl) rfl ?_ | ((first | refine AOps.splitT rfl rfl rfl asm (fun h => ?_) | refine AOps.splitF rfl rfl rfl asm (fun h => ?_) | refine AOps.split rfl rfl rfl (fun h => ?_) (fun h => ?_)) <;> (fail_if_success (cases h; done)) <;> rw [h]))
      all_goals first | exact Wk.refl _ | exact wk_bad rfl rfl | exact wk_nil2
  · obtain ⟨rfl, rfl⟩ := cFits_nil hf rfl
    clear hf
    rcases s with _ | ⟨⟨T, us⟩, r⟩
    · skip
      have hk := ckinds_calls ([]) [3]
      rw [show kOk ([]) [3] = false from by (simp [kOk_c, kOk_n, kOk_end]) <;> assumption] at hk
      rw [show cData 76 ([]) ([]) = cBad 5 from by simp [cData, tyT, tyArg, tyArgs, List.getD_cons_zero, List.getD_cons_succ, cCode]]
      rw [encCR_bad (by decide)]
      refine QCalls.of Tryd.func39 rfl (fun args w => Tryd.call39 args w) (Nat.le_of_ble_eq_true rfl) [(0, .c (.int .i64 76)), (1, .c (.sl 2 (encTys ([])))), (2, .c (.sl 2 (encTys ([]))))] rfl fun β hβ => ?_; have hf := Tryd.func39
      repeat' (first | refine st ?_ | (refine AK.condS rfl (fun h => ?_) (fun h => ?_) <;> first | (cases h; done) | rw [h] | skip) | refine uW hf rfl rfl ?_ | refine uC rfl hk ?_ | refine uI rfl (0) rfl (rfl) rfl ?_ | refine uI rfl (1) rfl (rfl) rfl ?_ | refine uI rfl (2) rfl (rfl) rfl ?_ | ((first | refine AOps.splitT rfl rfl rfl asm (fun h => ?_) | refine AOps.splitF rfl rfl rfl asm (fun h => ?_) | refine AOps.split rfl rfl rfl (fun h => ?_) (fun h => ?_)) <;> (fail_if_success (cases h; done)) <;> rw [h]))
      all_goals first | exact Wk.refl _ | exact wk_bad rfl rfl | exact wk_nil2
    by_cases hT : T = 3
    · subst hT
      have hk := ckinds_calls (.mk 3 us :: r) [3]
      rw [show kOk (.mk 3 us :: r) [3] = true from by (simp [kOk_c, kOk_n, kOk_end]) <;> assumption] at hk
      have hp := cput_calls (r) [.mk 2 []]
      rw [encCR_ok'] at hp
      rw [show cData 76 ([]) (.mk 3 us :: r) = cOk (.mk 2 [] :: r) from by simp [cData, tyT, tyArg, tyArgs, List.getD_cons_zero, List.getD_cons_succ, cCode]]
      rw [encCR_ok']
      refine QCalls.of Tryd.func39 rfl (fun args w => Tryd.call39 args w) (Nat.le_of_ble_eq_true rfl) [(0, .c (.int .i64 76)), (1, .c (.sl 2 (encTys ([])))), (2, .c (.sl 2 (encTys (.mk 3 us :: r))))] rfl fun β hβ => ?_; have hf := Tryd.func39
      repeat' (first | refine st ?_ | (refine AK.condS rfl (fun h => ?_) (fun h => ?_) <;> first | (cases h; done) | rw [h] | skip) | refine uW hf rfl rfl ?_ | refine uC rfl hk ?_ | refine uC rfl hp ?_ | refine uC rfl (one0_calls 2) ?_ | refine uI rfl (0) rfl (rfl) rfl ?_ | refine uI rfl (1) rfl (rfl) rfl ?_ | refine uI rfl (2) rfl (rfl) rfl ?_ | ((first | refine AOps.splitT rfl rfl rfl asm (fun h => ?_) | refine AOps.splitF rfl rfl rfl asm (fun h => ?_) | refine AOps.split rfl rfl rfl (fun h => ?_) (fun h => ?_)) <;> (fail_if_success (cases h; done)) <;> rw [h]))
      all_goals first | exact Wk.refl _ | exact wk_bad rfl rfl | exact wk_nil2
    · skip
      have hk := ckinds_calls (.mk T us :: r) [3]
      rw [show kOk (.mk T us :: r) [3] = false from by (simp [kOk_c, kOk_n, kOk_end, hT]) <;> assumption] at hk
      rw [show cData 76 ([]) (.mk T us :: r) = cBad 5 from by simp [cData, tyT, tyArg, tyArgs, List.getD_cons_zero, List.getD_cons_succ, cCode, hT]]
      rw [encCR_bad (by decide)]
      refine QCalls.of Tryd.func39 rfl (fun args w => Tryd.call39 args w) (Nat.le_of_ble_eq_true rfl) [(0, .c (.int .i64 76)), (1, .c (.sl 2 (encTys ([])))), (2, .c (.sl 2 (encTys (.mk T us :: r))))] rfl fun β hβ => ?_; have hf := Tryd.func39
      repeat' (first | refine st ?_ | (refine AK.condS rfl (fun h => ?_) (fun h => ?_) <;> first | (cases h; done) | rw [h] | skip) | refine uW hf rfl rfl ?_ | refine uC rfl hk ?_ | refine uI rfl (0) rfl (rfl) rfl ?_ | refine uI rfl (1) rfl (rfl) rfl ?_ | refine uI rfl (2) rfl (rfl) rfl ?_ | ((first | refine AOps.splitT rfl rfl rfl asm (fun h => ?_) | refine AOps.splitF rfl rfl rfl asm (fun h => ?_) | refine AOps.split rfl rfl rfl (fun h => ?_) (fun h => ?_)) <;> (fail_if_success (cases h; done)) <;> rw [h]))
      all_goals first | exact Wk.refl _ | exact wk_bad rfl rfl | exact wk_nil2
  · obtain ⟨rfl, rfl⟩ := cFits_nil hf rfl
    clear hf
    rcases s with _ | ⟨⟨T, us⟩, r⟩
    · skip
      have hk := ckinds_calls ([]) [2]
      rw [show kOk ([]) [2] = false from by (simp [kOk_c, kOk_n, kOk_end]) <;> assumption] at hk
      rw [show cData 77 ([]) ([]) = cBad 5 from by simp [cData, tyT, tyArg, tyArgs, List.getD_cons_zero, List.getD_cons_succ, cCode]]
      rw [encCR_bad (by decide)]
      refine QCalls.of Tryd.func39 rfl (fun args w => Tryd.call39 args w) (Nat.le_of_ble_eq_true rfl) [(0, .c (.int .i64 77)), (1, .c (.sl 2 (encTys ([])))), (2, .c (.sl 2 (encTys ([]))))] rfl fun β hβ => ?_; have hf := Tryd.func39
      repeat' (first | refine st ?_ | (refine AK.condS rfl (fun h => ?_) (fun h => ?_) <;> first | (cases h; done) | rw [h] | skip) | refine uW hf rfl rfl ?_ | refine uC rfl hk ?_ | refine uI rfl (0) rfl (rfl) rfl ?_ | refine uI rfl (1) rfl (rfl) rfl ?_ | refine uI rfl (2) rfl (rfl) rfl ?_ | ((first | refine AOps.splitT rfl rfl rfl asm (fun h => ?_) | refine AOps.splitF rfl rfl rfl asm (fun h => ?_) | refine AOps.split rfl rfl rfl (fun h => ?_) (fun h => ?_)) <;> (fail_if_success (cases h; done)) <;> rw [h]))
      all_goals first | exact Wk.refl _ | exact wk_bad rfl rfl | exact wk_nil2
    by_cases hT : T = 2
    · subst hT
      have hk := ckinds_calls (.mk 2 us :: r) [2]
      rw [show kOk (.mk 2 us :: r) [2] = true from by (simp [kOk_c, kOk_n, kOk_end]) <;> assumption] at hk
      have hp := cput0_calls (.mk 2 us :: r)
      rw [encCR_ok'] at hp
      rw [show cData 77 ([]) (.mk 2 us :: r) = cOk (.mk 2 us :: r) from by simp [cData, tyT, tyArg, tyArgs, List.getD_cons_zero, List.getD_cons_succ, cCode]]
      rw [encCR_ok']
      refine QCalls.of Tryd.func39 rfl (fun args w => Tryd.call39 args w) (Nat.le_of_ble_eq_true rfl) [(0, .c (.int .i64 77)), (1, .c (.sl 2 (encTys ([])))), (2, .c (.sl 2 (encTys (.mk 2 us :: r))))] rfl fun β hβ => ?_; have hf := Tryd.func39
      repeat' (first | refine st ?_ | (refine AK.condS rfl (fun h => ?_) (fun h => ?_) <;> first | (cases h; done) | rw [h] | skip) | refine uW hf rfl rfl ?_ | refine uC rfl hk ?_ | refine uC rfl hp ?_ | refine uI rfl (0) rfl (rfl) rfl ?_ | refine uI rfl (1) rfl (rfl) rfl ?_ | refine uI rfl (2) rfl (rfl) rfl ?_ | ((first | refine AOps.splitT rfl rfl rfl asm (fun h => ?_) | refine AOps.splitF rfl rfl rfl asm (fun h => ?_) | refine AOps.split rfl rfl rfl (fun h => ?_) (fun h => ?_)) <;> (fail_if_success (cases h; done)) <;> rw [h]))
      all_goals first | exact Wk.refl _ | exact wk_bad rfl rfl | exact wk_nil2
    · skip
      have hk := ckinds_calls (.mk T us :: r) [2]
      rw [show kOk (.mk T us :: r) [2] = false from by (simp [kOk_c, kOk_n, kOk_end, hT]) <;> assumption] at hk
      rw [show cData 77 ([]) (.mk T us :: r) = cBad 5 from by simp [cData, tyT, tyArg, tyArgs, List.getD_cons_zero, List.getD_cons_succ, cCode, hT]]
      rw [encCR_bad (by decide)]
      refine QCalls.of Tryd.func39 rfl (fun args w => Tryd.call39 args w) (Nat.le_of_ble_eq_true rfl) [(0, .c (.int .i64 77)), (1, .c (.sl 2 (encTys ([])))), (2, .c (.sl 2 (encTys (.mk T us :: r))))] rfl fun β hβ => ?_; have hf := Tryd.func39
      repeat' (first | refine st ?_ | (refine AK.condS rfl (fun h => ?_) (fun h => ?_) <;> first | (cases h; done) | rw [h] | skip) | refine uW hf rfl rfl ?_ | refine uC rfl hk ?_ | refine uI rfl (0) rfl (rfl) rfl ?_ | refine uI rfl (1) rfl (rfl) rfl ?_ | refine uI rfl (2) rfl (rfl) rfl ?_ | ((first | refine AOps.splitT rfl rfl rfl asm (fun h => ?_) | refine AOps.splitF rfl rfl rfl asm (fun h => ?_) | refine AOps.split rfl rfl rfl (fun h => ?_) (fun h => ?_)) <;> (fail_if_success (cases h; done)) <;> rw [h]))
      all_goals first | exact Wk.refl _ | exact wk_bad rfl rfl | exact wk_nil2
  · obtain ⟨rfl, rfl⟩ := cFits_nil hf rfl
    clear hf
    rcases s with _ | ⟨⟨T, us⟩, _ | ⟨⟨U, vs⟩, q⟩⟩
    · skip
      have hk := ckinds_calls ([]) [2, 2]
      rw [show kOk ([]) [2, 2] = false from by (simp [kOk_c, kOk_n, kOk_end]) <;> assumption] at hk
      rw [show cData 78 ([]) ([]) = cBad 5 from by simp [cData, tyT, tyArg, tyArgs, List.getD_cons_zero, List.getD_cons_succ, cCode]]
      rw [encCR_bad (by decide)]
      refine QCalls.of Tryd.func39 rfl (fun args w => Tryd.call39 args w) (Nat.le_of_ble_eq_true rfl) [(0, .c (.int .i64 78)), (1, .c (.sl 2 (encTys ([])))), (2, .c (.sl 2 (encTys ([]))))] rfl fun β hβ => ?_; have hf := Tryd.func39
      repeat' (first | refine st ?_ | (refine AK.condS rfl (fun h => ?_) (fun h => ?_) <;> first | (cases h; done) | rw [h] | skip) | refine uW hf rfl rfl ?_ | refine uC rfl hk ?_ | refine uI rfl (0) rfl (rfl) rfl ?_ | refine uI rfl (1) rfl (rfl) rfl ?_ | refine uI rfl (2) rfl (rfl) rfl ?_ | ((first | refine AOps.splitT rfl rfl rfl asm (fun h => ?_) | refine AOps.splitF rfl rfl rfl asm (fun h => ?_) | refine AOps.split rfl rfl rfl (fun h => ?_) (fun h => ?_)) <;> (fail_if_success (cases h; done)) <;> rw [h]))
      all_goals first | exact Wk.refl _ | exact wk_bad rfl rfl | exact wk_nil2
    · skip
      have hk := ckinds_calls ([.mk T us]) [2, 2]
      rw [show kOk ([.mk T us]) [2, 2] = false from by (simp [kOk_c, kOk_n, kOk_end]) <;> assumption] at hk
      rw [show cData 78 ([]) ([.mk T us]) = cBad 5 from by simp [cData, tyT, tyArg, tyArgs, List.getD_cons_zero, List.getD_cons_succ, cCode]]
      rw [encCR_bad (by decide)]
      refine QCalls.of Tryd.func39 rfl (fun args w => Tryd.call39 args w) (Nat.le_of_ble_eq_true rfl) [(0, .c (.int .i64 78)), (1, .c (.sl 2 (encTys ([])))), (2, .c (.sl 2 (encTys ([.mk T us]))))] rfl fun β hβ => ?_; have hf := Tryd.func39
      repeat' (first | refine st ?_ | (refine AK.condS rfl (fun h => ?_) (fun h => ?_) <;> first | (cases h; done) | rw [h] | skip) | refine uW hf rfl rfl ?_ | refine uC rfl hk ?_ | refine uI rfl (0) rfl (rfl) rfl ?_ | refine uI rfl (1) rfl (rfl) rfl ?_ | refine uI rfl (2) rfl (rfl) rfl ?_ | ((first | refine AOps.splitT rfl rfl rfl asm (fun h => ?_) | refine AOps.splitF rfl rfl rfl asm (fun h => ?_) | refine AOps.split rfl rfl rfl (fun h => ?_) (fun h => ?_)) <;> (fail_if_success (cases h; done)) <;> rw [h]))
      all_goals first | exact Wk.refl _ | exact wk_bad rfl rfl | exact wk_nil2
    by_cases hT : T = 2 ∧ U = 2
    · obtain ⟨rfl, rfl⟩ := hT
      have hk := ckinds_calls (.mk 2 us :: .mk 2 vs :: q) [2, 2]
      rw [show kOk (.mk 2 us :: .mk 2 vs :: q) [2, 2] = true from by (simp [kOk_c, kOk_n, kOk_end]) <;> assumption] at hk
      have hp := cput0_calls (.mk 2 vs :: q)
      rw [encCR_ok'] at hp
      rw [show cData 78 ([]) (.mk 2 us :: .mk 2 vs :: q) = cOk (.mk 2 vs :: q) from by simp [cData, tyT, tyArg, tyArgs, List.getD_cons_zero, List.getD_cons_succ, cCode]]
      rw [encCR_ok']
      refine QCalls.of Tryd.func39 rfl (fun args w => Tryd.call39 args w) (Nat.le_of_ble_eq_true rfl) [(0, .c (.int .i64 78)), (1, .c (.sl 2 (encTys ([])))), (2, .c (.sl 2 (encTys (.mk 2 us :: .mk 2 vs :: q))))] rfl fun β hβ => ?_; have hf := Tryd.func39
      repeat' (first | refine st ?_ | (refine AK.condS rfl (fun h => ?_) (fun h => ?_) <;> first | (cases h; done) | rw [h] | skip) | refine uW hf rfl rfl ?_ | refine uC rfl hk ?_ | refine uC rfl hp ?_ | refine uI rfl (0) rfl (rfl) rfl ?_ | refine uI rfl (1) rfl (rfl) rfl ?_ | refine uI rfl (2) rfl (rfl) rfl ?_ | ((first | refine AOps.splitT rfl rfl rfl asm (fun h => ?_) | refine AOps.splitF rfl rfl rfl asm (fun h => ?_) | refine AOps.split rfl rfl rfl (fun h => ?_) (fun h => ?_)) <;> (fail_if_success (cases h; done)) <;> rw [h]))
      all_goals first | exact Wk.refl _ | exact wk_bad rfl rfl | exact wk_nil2
    · have hT2 : T = 2 → ¬ U = 2 := fun a b => hT ⟨a, b⟩
      have hk := ckinds_calls (.mk T us :: .mk U vs :: q) [2, 2]
      rw [show kOk (.mk T us :: .mk U vs :: q) [2, 2] = false from by (simp [kOk_c, kOk_n, kOk_end, hT2]) <;> assumption] at hk
      rw [show cData 78 ([]) (.mk T us :: .mk U vs :: q) = cBad 5 from by simp [cData, tyT, tyArg, tyArgs, List.getD_cons_zero, List.getD_cons_succ, cCode, hT]]
      rw [encCR_bad (by decide)]
      refine QCalls.of Tryd.func39 rfl (fun args w => Tryd.call39 args w) (Nat.le_of_ble_eq_true rfl) [(0, .c (.int .i64 78)), (1, .c (.sl 2 (encTys ([])))), (2, .c (.sl 2 (encTys (.mk T us :: .mk U vs :: q))))] rfl fun β hβ => ?_; have hf := Tryd.func39
      repeat' (first | refine st ?_ | (refine AK.condS rfl (fun h => ?_) (fun h => ?_) <;> first | (cases h; done) | rw [h] | skip) | refine uW hf rfl rfl ?_ | refine uC rfl hk ?_ | refine uI rfl (0) rfl (rfl) rfl ?_ | refine uI rfl (1) rfl (rfl) rfl ?_ | refine uI rfl (2) rfl (rfl) rfl ?_ | ((first | refine AOps.splitT rfl rfl rfl asm (fun h => ?_) | refine AOps.splitF rfl rfl rfl asm (fun h => ?_) | refine AOps.split rfl rfl rfl (fun h => ?_) (fun h => ?_)) <;> (fail_if_success (cases h; done)) <;> rw [h]))
      all_goals first | exact Wk.refl _ | exact wk_bad rfl rfl | exact wk_nil2
  · obtain ⟨rfl, rfl⟩ := cFits_nil hf rfl
    clear hf
    rcases s with _ | ⟨⟨T, us⟩, _ | ⟨⟨U, vs⟩, q⟩⟩
    · skip
      have hk := ckinds_calls ([]) [2, 2]
      rw [show kOk ([]) [2, 2] = false from by (simp [kOk_c, kOk_n, kOk_end]) <;> assumption] at hk
      rw [show cData 79 ([]) ([]) = cBad 5 from by simp [cData, tyT, tyArg, tyArgs, List.getD_cons_zero, List.getD_cons_succ, cCode]]
      rw [encCR_bad (by decide)]
      refine QCalls.of Tryd.func39 rfl (fun args w => Tryd.call39 args w) (Nat.le_of_ble_eq_true rfl) [(0, .c (.int .i64 79)), (1, .c (.sl 2 (encTys ([])))), (2, .c (.sl 2 (encTys ([]))))] rfl fun β hβ => ?_; have hf := Tryd.func39
      repeat' (first | refine st ?_ | (refine AK.condS rfl (fun h => ?_) (fun h => ?_) <;> first | (cases h; done) | rw [h] | skip) | refine uW hf rfl rfl ?_ | refine uC rfl hk ?_ | refine uI rfl (0) rfl (rfl) rfl ?_ | refine uI rfl (1) rfl (rfl) rfl ?_ | refine uI rfl (2) rfl (rfl) rfl ?_ | ((first | refine AOps.splitT rfl rfl rfl asm (fun h => ?_) | refine AOps.splitF rfl rfl rfl asm (fun h => ?_) | refine AOps.split rfl rfl rfl (fun h => ?_) (fun h => ?_)) <;> (fail_if_success (cases h; done)) <;> rw [h]))
      all_goals first | exact Wk.refl _ | exact wk_bad rfl rfl | exact wk_nil2
    · skip
      have hk := ckinds_calls ([.mk T us]) [2, 2]
      rw [show kOk ([.mk T us]) [2, 2] = false from by (simp [kOk_c, kOk_n, kOk_end]) <;> assumption] at hk
      rw [show cData 79 ([]) ([.mk T us]) = cBad 5 from by simp [cData, tyT, tyArg, tyArgs, List.getD_cons_zero, List.getD_cons_succ, cCode]]
      rw [encCR_bad (by decide)]
      refine QCalls.of Tryd.func39 rfl (fun args w => Tryd.call39 args w) (Nat.le_of_ble_eq_true rfl) [(0, .c (.int .i64 79)), (1, .c (.sl 2 (encTys ([])))), (2, .c (.sl 2 (encTys ([.mk T us]))))] rfl fun β hβ => ?_; have hf := Tryd.func39
      repeat' (first | refine st ?_ | (refine AK.condS rfl (fun h => ?_) (fun h => ?_) <;> first | (cases h; done) | rw [h] | skip) | refine uW hf rfl rfl ?_ | refine uC rfl hk ?_ | refine uI rfl (0) rfl (rfl) rfl ?_ | refine uI rfl (1) rfl (rfl) rfl ?_ | refine uI rfl (2) rfl (rfl) rfl ?_ | ((first | refine AOps.splitT rfl rfl rfl asm (fun h => ?_) | refine AOps.splitF rfl rfl rfl asm (fun h => ?_) | refine AOps.split rfl rfl rfl (fun h => ?_) (fun h => ?_)) <;> (fail_if_success (cases h; done)) <;> rw [h]))
      all_goals first | exact Wk.refl _ | exact wk_bad rfl rfl | exact wk_nil2
    by_cases hT : T = 2 ∧ U = 2
    · obtain ⟨rfl, rfl⟩ := hT
      have hk := ckinds_calls (.mk 2 us :: .mk 2 vs :: q) [2, 2]
      rw [show kOk (.mk 2 us :: .mk 2 vs :: q) [2, 2] = true from by (simp [kOk_c, kOk_n, kOk_end]) <;> assumption] at hk
      have hp := cput0_calls (.mk 2 vs :: q)
      rw [encCR_ok'] at hp
      rw [show cData 79 ([]) (.mk 2 us :: .mk 2 vs :: q) = cOk (.mk 2 vs :: q) from by simp [cData, tyT, tyArg, tyArgs, List.getD_cons_zero, List.getD_cons_succ, cCode]]
      rw [encCR_ok']
      refine QCalls.of Tryd.func39 rfl (fun args w => Tryd.call39 args w) (Nat.le_of_ble_eq_true rfl) [(0, .c (.int .i64 79)), (1, .c (.sl 2 (encTys ([])))), (2, .c (.sl 2 (encTys (.mk 2 us :: .mk 2 vs :: q))))] rfl fun β hβ => ?_; have hf := Tryd.func39
      repeat' (first | refine st ?_ | (refine AK.condS rfl (fun h => ?_) (fun h => ?_) <;> first | (cases h; done) | rw [h] | skip) | refine uW hf rfl rfl ?_ | refine uC rfl hk ?_ | refine uC rfl hp ?_ | refine uI rfl (0) rfl (rfl) rfl ?_ | refine uI rfl (1) rfl (rfl) rfl ?_ | refine uI rfl (2) rfl (rfl) rfl ?_ | ((first | refine AOps.splitT rfl rfl rfl asm (fun h => ?_) | refine AOps.splitF rfl rfl rfl asm (fun h => ?_) | refine AOps.split rfl rfl rfl (fun h => ?_) (fun h => ?_)) <;> (fail_if_success (cases h; done)) <;> rw [h]))
      all_goals first | exact Wk.refl _ | exact wk_bad rfl rfl | exact wk_nil2
    · have hT2 : T = 2 → ¬ U = 2 := fun a b => hT ⟨a, b⟩
      have hk := ckinds_calls (.mk T us :: .mk U vs :: q) [2, 2]
      rw [show kOk (.mk T us :: .mk U vs :: q) [2, 2] = false from by (simp [kOk_c, kOk_n, kOk_end, hT2]) <;> assumption] at hk
      rw [show cData 79 ([]) (.mk T us :: .mk U vs :: q) = cBad 5 from by simp [cData, tyT, tyArg, tyArgs, List.getD_cons_zero, List.getD_cons_succ, cCode, hT]]
      rw [encCR_bad (by decide)]
      refine QCalls.of Tryd.func39 rfl (fun args w => Tryd.call39 args w) (Nat.le_of_ble_eq_true rfl) [(0, .c (.int .i64 79)), (1, .c (.sl 2 (encTys ([])))), (2, .c (.sl 2 (encTys (.mk T us :: .mk U vs :: q))))] rfl fun β hβ => ?_; have hf := Tryd.func39
      repeat' (first | refine st ?_ | (refine AK.condS rfl (fun h => ?_) (fun h => ?_) <;> first | (cases h; done) | rw [h] | skip) | refine uW hf rfl rfl ?_ | refine uC rfl hk ?_ | refine uI rfl (0) rfl (rfl) rfl ?_ | refine uI rfl (1) rfl (rfl) rfl ?_ | refine uI rfl (2) rfl (rfl) rfl ?_ | ((first | refine AOps.splitT rfl rfl rfl asm (fun h => ?_) | refine AOps.splitF rfl rfl rfl asm (fun h => ?_) | refine AOps.split rfl rfl rfl (fun h => ?_) (fun h => ?_)) <;> (fail_if_success (cases h; done)) <;> rw [h]))
      all_goals first | exact Wk.refl _ | exact wk_bad rfl rfl | exact wk_nil2
  · obtain ⟨rfl, rfl⟩ := cFits_nil hf rfl
    clear hf
    rcases s with _ | ⟨⟨T, us⟩, _ | ⟨⟨U, vs⟩, q⟩⟩
    · skip
      have hk := ckinds_calls ([]) [6, 6]
      rw [show kOk ([]) [6, 6] = false from by (simp [kOk_c, kOk_n, kOk_end]) <;> assumption] at hk
      rw [show cData 80 ([]) ([]) = cBad 5 from by simp [cData, tyT, tyArg, tyArgs, List.getD_cons_zero, List.getD_cons_succ, cCode]]
      rw [encCR_bad (by decide)]
      refine QCalls.of Tryd.func39 rfl (fun args w => Tryd.call39 args w) (Nat.le_of_ble_eq_true rfl) [(0, .c (.int .i64 80)), (1, .c (.sl 2 (encTys ([])))), (2, .c (.sl 2 (encTys ([]))))] rfl fun β hβ => ?_; have hf := Tryd.func39
      repeat' (first | refine st ?_ | (refine AK.condS rfl (fun h => ?_) (fun h => ?_) <;> first | (cases h; done) | rw [h] | skip) | refine uW hf rfl rfl ?_ | refine uC rfl hk ?_ | refine uI rfl (0) rfl (rfl) rfl ?_ | refine uI rfl (1) rfl (rfl) rfl ?_ | refine uI rfl (2) rfl (rfl) rfl ?_ | ((first | refine AOps.splitT rfl rfl rfl asm (fun h => ?_) | refine AOps.splitF rfl rfl rfl asm (fun h => ?_) | refine AOps.split rfl rfl rfl (fun h => ?_) (fun h => ?_)) <;> (fail_if_success (cases h; done)) <;> rw [h]))
      all_goals first | exact Wk.refl _ | exact wk_bad rfl rfl | exact wk_nil2
    · skip
      have hk := ckinds_calls ([.mk T us]) [6, 6]
      rw [show kOk ([.mk T us]) [6, 6] = false from by (simp [kOk_c, kOk_n, kOk_end]) <;> assumption] at hk
      rw [show cData 80 ([]) ([.mk T us]) = cBad 5 from by simp [cData, tyT, tyArg, tyArgs, List.getD_cons_zero, List.getD_cons_succ, cCode]]
      rw [encCR_bad (by decide)]
      refine QCalls.of Tryd.func39 rfl (fun args w => Tryd.call39 args w) (Nat.le_of_ble_eq_true rfl) [(0, .c (.int .i64 80)), (1, .c (.sl 2 (encTys ([])))), (2, .c (.sl 2 (encTys ([.mk T us]))))] rfl fun β hβ => ?_; have hf := Tryd.func39
      repeat' (first | refine st ?_ | (refine AK.condS rfl (fun h => ?_) (fun h => ?_) <;> first | (cases h; done) | rw [h] | skip) | refine uW hf rfl rfl ?_ | refine uC rfl hk ?_ | refine uI rfl (0) rfl (rfl) rfl ?_ | refine uI rfl (1) rfl (rfl) rfl ?_ | refine uI rfl (2) rfl (rfl) rfl ?_ | ((first | refine AOps.splitT rfl rfl rfl asm (fun h => ?_) | refine AOps.splitF rfl rfl rfl asm (fun h => ?_) | refine AOps.split rfl rfl rfl (fun h => ?_) (fun h => ?_)) <;> (fail_if_success (cases h; done)) <;> rw [h]))
      all_goals first | exact Wk.refl _ | exact wk_bad rfl rfl | exact wk_nil2
    by_cases hT : T = 6 ∧ U = 6
    · obtain ⟨rfl, rfl⟩ := hT
      have hk := ckinds_calls (.mk 6 us :: .mk 6 vs :: q) [6, 6]
      rw [show kOk (.mk 6 us :: .mk 6 vs :: q) [6, 6] = true from by (simp [kOk_c, kOk_n, kOk_end]) <;> assumption] at hk
      have hp := cput0_calls (.mk 6 vs :: q)
      rw [encCR_ok'] at hp
      rw [show cData 80 ([]) (.mk 6 us :: .mk 6 vs :: q) = cOk (.mk 6 vs :: q) from by simp [cData, tyT, tyArg, tyArgs, List.getD_cons_zero, List.getD_cons_succ, cCode]]
      rw [encCR_ok']
      refine QCalls.of Tryd.func39 rfl (fun args w => Tryd.call39 args w) (Nat.le_of_ble_eq_true rfl) [(0, .c (.int .i64 80)), (1, .c (.sl 2 (encTys ([])))), (2, .c (.sl 2 (encTys (.mk 6 us :: .mk 6 vs :: q))))] rfl fun β hβ => ?_; have hf := Tryd.func39
      repeat' (first | refine st ?_ | (refine AK.condS rfl (fun h => ?_) (fun h => ?_) <;> first | (cases h; done) | rw [h] | skip) | refine uW hf rfl rfl ?_ | refine uC rfl hk ?_ | refine uC rfl hp ?_ | refine uI rfl (0) rfl (rfl) rfl ?_ | refine uI rfl (1) rfl (rfl) rfl ?_ | refine uI rfl (2) rfl (rfl) rfl ?_ | ((first | refine AOps.splitT rfl rfl rfl asm (fun h => ?_) | refine AOps.splitF rfl rfl rfl asm (fun h => ?_) | refine AOps.split rfl rfl rfl (fun h => ?_) (fun h => ?_)) <;> (fail_if_success (cases h; done)) <;> rw [h]))
      all_goals first | exact Wk.refl _ | exact wk_bad rfl rfl | exact wk_nil2
    · have hT2 : T = 6 → ¬ U = 6 := fun a b => hT ⟨a, b⟩
      have hk := ckinds_calls (.mk T us :: .mk U vs :: q) [6, 6]
      rw [show kOk (.mk T us :: .mk U vs :: q) [6, 6] = false from by (simp [kOk_c, kOk_n, kOk_end, hT2]) <;> assumption] at hk
      rw [show cData 80 ([]) (.mk T us :: .mk U vs :: q) = cBad 5 from by simp [cData, tyT, tyArg, tyArgs, List.getD_cons_zero, List.getD_cons_succ, cCode, hT]]
      rw [encCR_bad (by decide)]
      refine QCalls.of Tryd.func39 rfl (fun args w => Tryd.call39 args w) (Nat.le_of_ble_eq_true rfl) [(0, .c (.int .i64 80)), (1, .c (.sl 2 (encTys ([])))), (2, .c (.sl 2 (encTys (.mk T us :: .mk U vs :: q))))] rfl fun β hβ => ?_; have hf := Tryd.func39
      repeat' (first | refine st ?_ | (refine AK.condS rfl (fun h => ?_) (fun h => ?_) <;> first | (cases h; done) | rw [h] | skip) | refine uW hf rfl rfl ?_ | refine uC rfl hk ?_ | refine uI rfl (0) rfl (rfl) rfl ?_ | refine uI rfl (1) rfl (rfl) rfl ?_ | refine uI rfl (2) rfl (rfl) rfl ?_ | ((first | refine AOps.splitT rfl rfl rfl asm (fun h => ?_) | refine AOps.splitF rfl rfl rfl asm (fun h => ?_) | refine AOps.split rfl rfl rfl (fun h => ?_) (fun h => ?_)) <;> (fail_if_success (cases h; done)) <;> rw [h]))
      all_goals first | exact Wk.refl _ | exact wk_bad rfl rfl | exact wk_nil2
  · obtain ⟨rfl, rfl⟩ := cFits_nil hf rfl
    clear hf
    rcases s with _ | ⟨⟨T, us⟩, r⟩
    · skip
      rw [show cData 81 ([]) ([]) = cBad 5 from by simp [cData, tyT, tyArg, tyArgs, List.getD_cons_zero, List.getD_cons_succ, cCode]]
      rw [encCR_bad (by decide)]
      refine QCalls.of Tryd.func39 rfl (fun args w => Tryd.call39 args w) (Nat.le_of_ble_eq_true rfl) [(0, .c (.int .i64 81)), (1, .c (.sl 2 (encTys ([])))), (2, .c (.sl 2 (encTys ([]))))] rfl fun β hβ => ?_; have hf := Tryd.func39
      repeat' (first | refine st ?_ | (refine AK.condS rfl (fun h => ?_) (fun h => ?_) <;> first | (cases h; done) | rw [h] | skip) | refine uW hf rfl rfl ?_ | refine uI rfl (0) rfl (rfl) rfl ?_ | refine uI rfl (1) rfl (rfl) rfl ?_ | refine uI rfl (2) rfl (rfl) rfl ?_ | ((first | refine AOps.splitT rfl rfl rfl asm (fun h => ?_) | refine AOps.splitF rfl rfl rfl asm (fun h => ?_) | refine AOps.split rfl rfl rfl (fun h => ?_) (fun h => ?_)) <;> (fail_if_success (cases h; done)) <;> rw [h]))
      all_goals first | exact Wk.refl _ | exact wk_bad rfl rfl | exact wk_nil2
    have h2 := Packed_calls (.mk T us) (by have := (hs (.mk T us) (by simp)).2; omega)
    have el0 := len_gt (encTys (.mk T us :: r)) 0 (by simp only [encTys, List.length_cons]; omega)
    cases g2 : tPack (.mk T us)
    · rw [g2] at h2
      rw [show cData 81 ([]) (.mk T us :: r) = cBad 5 from by simp [cData, tyT, tyArg, tyArgs, List.getD_cons_zero, List.getD_cons_succ, cCode, g2]]
      rw [encCR_bad (by decide)]
      refine QCalls.of Tryd.func39 rfl (fun args w => Tryd.call39 args w) (Nat.le_of_ble_eq_true rfl) [(0, .c (.int .i64 81)), (1, .c (.sl 2 (encTys ([])))), (2, .c (.sl 2 (encTys (.mk T us :: r))))] rfl fun β hβ => ?_; have hf := Tryd.func39
      repeat' (first | refine st ?_ | (refine AK.condS rfl (fun h => ?_) (fun h => ?_) <;> first | (cases h; done) | rw [h] | skip) | refine uW hf rfl rfl ?_ | refine uC rfl h2 ?_ | refine uI rfl (0) rfl (rfl) rfl ?_ | refine uI rfl (1) rfl (rfl) rfl ?_ | refine uI rfl (2) rfl (rfl) rfl ?_ | ((first | refine AOps.splitT rfl rfl rfl asm (fun h => ?_) | refine AOps.splitF rfl rfl rfl asm (fun h => ?_) | refine AOps.split rfl rfl rfl (fun h => ?_) (fun h => ?_)) <;> (fail_if_success (cases h; done)) <;> rw [h]))
      all_goals first | exact Wk.refl _ | exact wk_bad rfl rfl | exact wk_nil2
    · rw [g2] at h2
      have hp := cput_calls (r) [.mk 6 []]
      rw [encCR_ok'] at hp
      rw [show cData 81 ([]) (.mk T us :: r) = cOk (.mk 6 [] :: r) from by simp [cData, tyT, tyArg, tyArgs, List.getD_cons_zero, List.getD_cons_succ, cCode, g2]]
      rw [encCR_ok']
      refine QCalls.of Tryd.func39 rfl (fun args w => Tryd.call39 args w) (Nat.le_of_ble_eq_true rfl) [(0, .c (.int .i64 81)), (1, .c (.sl 2 (encTys ([])))), (2, .c (.sl 2 (encTys (.mk T us :: r))))] rfl fun β hβ => ?_; have hf := Tryd.func39
      repeat' (first | refine st ?_ | (refine AK.condS rfl (fun h => ?_) (fun h => ?_) <;> first | (cases h; done) | rw [h] | skip) | refine uW hf rfl rfl ?_ | refine uC rfl h2 ?_ | refine uC rfl hp ?_ | refine uC rfl (one0_calls 6) ?_ | refine uI rfl (0) rfl (rfl) rfl ?_ | refine uI rfl (1) rfl (rfl) rfl ?_ | refine uI rfl (2) rfl (rfl) rfl ?_ | ((first | refine AOps.splitT rfl rfl rfl asm (fun h => ?_) | refine AOps.splitF rfl rfl rfl asm (fun h => ?_) | refine AOps.split rfl rfl rfl (fun h => ?_) (fun h => ?_)) <;> (fail_if_success (cases h; done)) <;> rw [h]))
      all_goals first | exact Wk.refl _ | exact wk_bad rfl rfl | exact wk_nil2
  · obtain ⟨x, t, rfl, rfl, ht⟩ := cFits_t hf rfl
    clear hf
    have ht2 := ht.2
    obtain ⟨V, ws⟩ := t
    have h2 := Packed_calls (.mk V ws) (by omega)
    rcases s with _ | ⟨⟨T, us⟩, r⟩
    · skip
      have hk := ckinds_calls ([]) [6]
      rw [show kOk ([]) [6] = false from by (simp [kOk_c, kOk_n, kOk_end]) <;> assumption] at hk
      rw [show cData 82 ([.mk V ws]) ([]) = cBad 5 from by simp [cData, tyT, tyArg, tyArgs, List.getD_cons_zero, List.getD_cons_succ, cCode]]
      rw [encCR_bad (by decide)]
      refine QCalls.of Tryd.func39 rfl (fun args w => Tryd.call39 args w) (Nat.le_of_ble_eq_true rfl) [(0, .c (.int .i64 82)), (1, .c (.sl 2 (encTys ([.mk V ws])))), (2, .c (.sl 2 (encTys ([]))))] rfl fun β hβ => ?_; have hf := Tryd.func39
      repeat' (first | refine st ?_ | (refine AK.condS rfl (fun h => ?_) (fun h => ?_) <;> first | (cases h; done) | rw [h] | skip) | refine uW hf rfl rfl ?_ | refine uC rfl hk ?_ | refine uC rfl h2 ?_ | refine uI rfl (0) rfl (rfl) rfl ?_ | refine uI rfl (1) rfl (rfl) rfl ?_ | refine uI rfl (2) rfl (rfl) rfl ?_ | ((first | refine AOps.splitT rfl rfl rfl asm (fun h => ?_) | refine AOps.splitF rfl rfl rfl asm (fun h => ?_) | refine AOps.split rfl rfl rfl (fun h => ?_) (fun h => ?_)) <;> (fail_if_success (cases h; done)) <;> rw [h]))
      all_goals first | exact Wk.refl _ | exact wk_bad rfl rfl | exact wk_nil2
    by_cases hT : T = 6
    · subst hT
      have hk := ckinds_calls (.mk 6 us :: r) [6]
      rw [show kOk (.mk 6 us :: r) [6] = true from by (simp [kOk_c, kOk_n, kOk_end]) <;> assumption] at hk
      cases g2 : tPack (.mk V ws)
      · rw [g2] at h2
        rw [show cData 82 ([.mk V ws]) (.mk 6 us :: r) = cBad 5 from by simp [cData, tyT, tyArg, tyArgs, List.getD_cons_zero, List.getD_cons_succ, cCode, g2]]
        rw [encCR_bad (by decide)]
        refine QCalls.of Tryd.func39 rfl (fun args w => Tryd.call39 args w) (Nat.le_of_ble_eq_true rfl) [(0, .c (.int .i64 82)), (1, .c (.sl 2 (encTys ([.mk V ws])))), (2, .c (.sl 2 (encTys (.mk 6 us :: r))))] rfl fun β hβ => ?_; have hf := Tryd.func39
        repeat' (first | refine st ?_ | (refine AK.condS rfl (fun h => ?_) (fun h => ?_) <;> first | (cases h; done) | rw [h] | skip) | refine uW hf rfl rfl ?_ | refine uC rfl hk ?_ | refine uC rfl h2 ?_ | refine uI rfl (0) rfl (rfl) rfl ?_ | refine uI rfl (1) rfl (rfl) rfl ?_ | refine uI rfl (2) rfl (rfl) rfl ?_ | ((first | refine AOps.splitT rfl rfl rfl asm (fun h => ?_) | refine AOps.splitF rfl rfl rfl asm (fun h => ?_) | refine AOps.split rfl rfl rfl (fun h => ?_) (fun h => ?_)) <;> (fail_if_success (cases h; done)) <;> rw [h]))
        all_goals first | exact Wk.refl _ | exact wk_bad rfl rfl | exact wk_nil2
      · rw [g2] at h2
        have hp := cput_calls (r) [.mk 9 [.mk V ws]]
        rw [encCR_ok'] at hp
        rw [show cData 82 ([.mk V ws]) (.mk 6 us :: r) = cOk (.mk 9 [.mk V ws] :: r) from by simp [cData, tyT, tyArg, tyArgs, List.getD_cons_zero, List.getD_cons_succ, cCode, g2]]
        rw [encCR_ok']
        refine QCalls.of Tryd.func39 rfl (fun args w => Tryd.call39 args w) (Nat.le_of_ble_eq_true rfl) [(0, .c (.int .i64 82)), (1, .c (.sl 2 (encTys ([.mk V ws])))), (2, .c (.sl 2 (encTys (.mk 6 us :: r))))] rfl fun β hβ => ?_; have hf := Tryd.func39
        repeat' (first | refine st ?_ | (refine AK.condS rfl (fun h => ?_) (fun h => ?_) <;> first | (cases h; done) | rw [h] | skip) | refine uW hf rfl rfl ?_ | refine uC rfl hk ?_ | refine uC rfl h2 ?_ | refine uC rfl hp ?_ | refine uC rfl (one_calls 9 [.mk V ws]) ?_ | refine uI rfl (0) rfl (rfl) rfl ?_ | refine uI rfl (1) rfl (rfl) rfl ?_ | refine uI rfl (2) rfl (rfl) rfl ?_ | ((first | refine AOps.splitT rfl rfl rfl asm (fun h => ?_) | refine AOps.splitF rfl rfl rfl asm (fun h => ?_) | refine AOps.split rfl rfl rfl (fun h => ?_) (fun h => ?_)) <;> (fail_if_success (cases h; done)) <;> rw [h]))
        all_goals first | exact Wk.refl _ | exact wk_bad rfl rfl | exact wk_nil2
    · skip
      have hk := ckinds_calls (.mk T us :: r) [6]
      rw [show kOk (.mk T us :: r) [6] = false from by (simp [kOk_c, kOk_n, kOk_end, hT]) <;> assumption] at hk
      rw [show cData 82 ([.mk V ws]) (.mk T us :: r) = cBad 5 from by simp [cData, tyT, tyArg, tyArgs, List.getD_cons_zero, List.getD_cons_succ, cCode, hT]]
      rw [encCR_bad (by decide)]
      refine QCalls.of Tryd.func39 rfl (fun args w => Tryd.call39 args w) (Nat.le_of_ble_eq_true rfl) [(0, .c (.int .i64 82)), (1, .c (.sl 2 (encTys ([.mk V ws])))), (2, .c (.sl 2 (encTys (.mk T us :: r))))] rfl fun β hβ => ?_; have hf := Tryd.func39
      repeat' (first | refine st ?_ | (refine AK.condS rfl (fun h => ?_) (fun h => ?_) <;> first | (cases h; done) | rw [h] | skip) | refine uW hf rfl rfl ?_ | refine uC rfl hk ?_ | refine uI rfl (0) rfl (rfl) rfl ?_ | refine uI rfl (1) rfl (rfl) rfl ?_ | refine uI rfl (2) rfl (rfl) rfl ?_ | ((first | refine AOps.splitT rfl rfl rfl asm (fun h => ?_) | refine AOps.splitF rfl rfl rfl asm (fun h => ?_) | refine AOps.split rfl rfl rfl (fun h => ?_) (fun h => ?_)) <;> (fail_if_success (cases h; done)) <;> rw [h]))
      all_goals first | exact Wk.refl _ | exact wk_bad rfl rfl | exact wk_nil2
  · obtain ⟨rfl, rfl⟩ := cFits_nil hf rfl
    clear hf
    rcases s with _ | ⟨⟨T, us⟩, r⟩
    · skip
      rw [show cData 83 ([]) ([]) = cBad 5 from by simp [cData, tyT, tyArg, tyArgs, List.getD_cons_zero, List.getD_cons_succ, cCode]]
      rw [encCR_bad (by decide)]
      refine QCalls.of Tryd.func39 rfl (fun args w => Tryd.call39 args w) (Nat.le_of_ble_eq_true rfl) [(0, .c (.int .i64 83)), (1, .c (.sl 2 (encTys ([])))), (2, .c (.sl 2 (encTys ([]))))] rfl fun β hβ => ?_; have hf := Tryd.func39
      repeat' (first | refine st ?_ | (refine AK.condS rfl (fun h => ?_) (fun h => ?_) <;> first | (cases h; done) | rw [h] | skip) | refine uW hf rfl rfl ?_ | refine uI rfl (0) rfl (rfl) rfl ?_ | refine uI rfl (1) rfl (rfl) rfl ?_ | refine uI rfl (2) rfl (rfl) rfl ?_ | ((first | refine AOps.splitT rfl rfl rfl asm (fun h => ?_) | refine AOps.splitF rfl rfl rfl asm (fun h => ?_) | refine AOps.split rfl rfl rfl (fun h => ?_) (fun h => ?_)) <;> (fail_if_success (cases h; done)) <;> rw [h]))
      all_goals first | exact Wk.refl _ | exact wk_bad rfl rfl | exact wk_nil2
    have h2 := Packed_calls (.mk T us) (by have := (hs (.mk T us) (by simp)).2; omega)
    have el0 := len_gt (encTys (.mk T us :: r)) 0 (by simp only [encTys, List.length_cons]; omega)
    cases g2 : tPack (.mk T us)
    · rw [g2] at h2
      rw [show cData 83 ([]) (.mk T us :: r) = cBad 5 from by simp [cData, tyT, tyArg, tyArgs, List.getD_cons_zero, List.getD_cons_succ, cCode, g2]]
      rw [encCR_bad (by decide)]
      refine QCalls.of Tryd.func39 rfl (fun args w => Tryd.call39 args w) (Nat.le_of_ble_eq_true rfl) [(0, .c (.int .i64 83)), (1, .c (.sl 2 (encTys ([])))), (2, .c (.sl 2 (encTys (.mk T us :: r))))] rfl fun β hβ => ?_; have hf := Tryd.func39
      repeat' (first | refine st ?_ | (refine AK.condS rfl (fun h => ?_) (fun h => ?_) <;> first | (cases h; done) | rw [h] | skip) | refine uW hf rfl rfl ?_ | refine uC rfl h2 ?_ | refine uI rfl (0) rfl (rfl) rfl ?_ | refine uI rfl (1) rfl (rfl) rfl ?_ | refine uI rfl (2) rfl (rfl) rfl ?_ | ((first | refine AOps.splitT rfl rfl rfl asm (fun h => ?_) | refine AOps.splitF rfl rfl rfl asm (fun h => ?_) | refine AOps.split rfl rfl rfl (fun h => ?_) (fun h => ?_)) <;> (fail_if_success (cases h; done)) <;> rw [h]))
      all_goals first | exact Wk.refl _ | exact wk_bad rfl rfl | exact wk_nil2
    · rw [g2] at h2
      rw [show cData 83 ([]) (.mk T us :: r) = (([], true), 0) from by simp [cData, tyT, tyArg, tyArgs, List.getD_cons_zero, List.getD_cons_succ, cCode, g2]]
      rw [encCR_ok]
      refine QCalls.of Tryd.func39 rfl (fun args w => Tryd.call39 args w) (Nat.le_of_ble_eq_true rfl) [(0, .c (.int .i64 83)), (1, .c (.sl 2 (encTys ([])))), (2, .c (.sl 2 (encTys (.mk T us :: r))))] rfl fun β hβ => ?_; have hf := Tryd.func39
      repeat' (first | refine st ?_ | (refine AK.condS rfl (fun h => ?_) (fun h => ?_) <;> first | (cases h; done) | rw [h] | skip) | refine uW hf rfl rfl ?_ | refine uC rfl h2 ?_ | refine uI rfl (0) rfl (rfl) rfl ?_ | refine uI rfl (1) rfl (rfl) rfl ?_ | refine uI rfl (2) rfl (rfl) rfl ?_ | ((first | refine AOps.splitT rfl rfl rfl asm (fun h => ?_) | refine AOps.splitF rfl rfl rfl asm (fun h => ?_) | refine AOps.split rfl rfl rfl (fun h => ?_) (fun h => ?_)) <;> (fail_if_success (cases h; done)) <;> rw [h]))
      all_goals first | exact Wk.refl _ | exact wk_bad rfl rfl | exact wk_nil2
end Go.Proofs

-- WK
set_option linter.unusedVariables false
set_option linter.unusedSimpArgs false
namespace Go.Proofs
open Go.Abs
attribute [local irreducible] AK AOps QCalls ECalls tParse tComp tCopy tPack tStore tGood cRow cStep cCodes nMints tPar

set_option maxHeartbeats 0 in
theorem cworld_calls (P : Int) (args : List Nd) (types s : List Ty) (hP : 84 ≤ P ∧ P ≤ 92) (hf : cFits P args = some types) (hs : sOk s) (hl : s.length ≤ 9999999990) : QCalls Tryd.prog Tryd.X 40 [.int .i64 P, .sl 2 (encTys types), .sl 2 (encTys s)] (encCR (cWorld P types s)) := by
  have hP2 : P = 84 ∨ P = 85 ∨ P = 86 ∨ P = 87 ∨ P = 88 ∨ P = 89 ∨ P = 90 ∨ P = 91 ∨ P = 92 := by omega
  clear hP
  rcases hP2 with rfl | rfl | rfl | rfl | rfl | rfl | rfl | rfl | rfl
  · obtain ⟨rfl, rfl⟩ := cFits_nil hf rfl
    clear hf
    rcases s with _ | ⟨⟨T, us⟩, _ | ⟨⟨U, vs⟩, q⟩⟩
    · skip
      have hk := ckinds_calls ([]) [0, 4]
      rw [show kOk ([]) [0, 4] = false from by (simp [kOk_c, kOk_n, kOk_end]) <;> assumption] at hk
      rw [show cWorld 84 ([]) ([]) = cBad 5 from by simp [cWorld, tyT, tyArg, tyArgs, List.getD_cons_zero, List.getD_cons_succ, cCode]]
      rw [encCR_bad (by decide)]
      refine QCalls.of Tryd.func40 rfl (fun args w => Tryd.call40 args w) (Nat.le_of_ble_eq_true rfl) [(0, .c (.int .i64 84)), (1, .c (.sl 2 (encTys ([])))), (2, .c (.sl 2 (encTys ([]))))] rfl fun β hβ => ?_; have hf := Tryd.func40
      repeat' (first | refine st ?_ | (refine AK.condS rfl (fun h => ?_) (fun h => ?_) <;> first | (cases h; done) | rw [h] | skip) | refine uW hf rfl rfl ?_ | refine uC rfl hk ?_ | refine uI rfl (0) rfl (rfl) rfl ?_ | refine uI rfl (1) rfl (rfl) rfl ?_ | refine uI rfl (2) rfl (rfl) rfl ?_ | ((first | refine AOps.splitT rfl rfl rfl asm (fun h => ?_) | refine AOps.splitF rfl rfl rfl asm (fun h => ?_) | refine AOps.split rfl rfl rfl (fun h => ?_) (fun h => ?_)) <;> (fail_if_success (cases h; done)) <;> rw [h]))
      all_goals first | exact Wk.refl _ | exact wk_bad rfl rfl | exact wk_nil2
    · skip
      have hk := ckinds_calls ([.mk T us]) [0, 4]
      rw [show kOk ([.mk T us]) [0, 4] = false from by (simp [kOk_c, kOk_n, kOk_end]) <;> assumption] at hk
      rw [show cWorld 84 ([]) ([.mk T us]) = cBad 5 from by simp [cWorld, tyT, tyArg, tyArgs, List.getD_cons_zero, List.getD_cons_succ, cCode]]
      rw [encCR_bad (by decide)]
      refine QCalls.of Tryd.func40 rfl (fun args w => Tryd.call40 args w) (Nat.le_of_ble_eq_true rfl) [(0, .c (.int .i64 84)), (1, .c (.sl 2 (encTys ([])))), (2, .c (.sl 2 (encTys ([.mk T us]))))] rfl fun β hβ => ?_; have hf := Tryd.func40
      repeat' (first | refine st ?_ | (refine AK.condS rfl (fun h => ?_) (fun h => ?_) <;> first | (cases h; done) | rw [h] | skip) | refine uW hf rfl rfl ?_ | refine uC rfl hk ?_ | refine uI rfl (0) rfl (rfl) rfl ?_ | refine uI rfl (1) rfl (rfl) rfl ?_ | refine uI rfl (2) rfl (rfl) rfl ?_ | ((first | refine AOps.splitT rfl rfl rfl asm (fun h => ?_) | refine AOps.splitF rfl rfl rfl asm (fun h => ?_) | refine AOps.split rfl rfl rfl (fun h => ?_) (fun h => ?_)) <;> (fail_if_success (cases h; done)) <;> rw [h]))
      all_goals first | exact Wk.refl _ | exact wk_bad rfl rfl | exact wk_nil2
    have h2 := Comparable_calls (.mk T us) (by have := (hs (.mk T us) (by simp)).2; omega)
    by_cases hU : U = 4
    · subst hU
      have hk := ckinds_calls (.mk T us :: .mk 4 vs :: q) [0, 4]
      rw [show kOk (.mk T us :: .mk 4 vs :: q) [0, 4] = true from by (simp [kOk_c, kOk_n, kOk_end]) <;> assumption] at hk
      cases g2 : tComp (.mk T us)
      · rw [g2] at h2
        rw [show cWorld 84 ([]) (.mk T us :: .mk 4 vs :: q) = cBad 5 from by simp [cWorld, tyT, tyArg, tyArgs, List.getD_cons_zero, List.getD_cons_succ, cCode, g2]]
        rw [encCR_bad (by decide)]
        refine QCalls.of Tryd.func40 rfl (fun args w => Tryd.call40 args w) (Nat.le_of_ble_eq_true rfl) [(0, .c (.int .i64 84)), (1, .c (.sl 2 (encTys ([])))), (2, .c (.sl 2 (encTys (.mk T us :: .mk 4 vs :: q))))] rfl fun β hβ => ?_; have hf := Tryd.func40
        repeat' (first | refine st ?_ | (refine AK.condS rfl (fun h => ?_) (fun h => ?_) <;> first | (cases h; done) | rw [h] | skip) | refine uW hf rfl rfl ?_ | refine uC rfl hk ?_ | refine uC rfl h2 ?_ | refine uI rfl (0) rfl (rfl) rfl ?_ | refine uI rfl (1) rfl (rfl) rfl ?_ | refine uI rfl (2) rfl (rfl) rfl ?_ | ((first | refine AOps.splitT rfl rfl rfl asm (fun h => ?_) | refine AOps.splitF rfl rfl rfl asm (fun h => ?_) | refine AOps.split rfl rfl rfl (fun h => ?_) (fun h => ?_)) <;> (fail_if_success (cases h; done)) <;> rw [h]))
        all_goals first | exact Wk.refl _ | exact wk_bad rfl rfl | exact wk_nil2
      · rw [g2] at h2
        have hp := cput_calls (q) [.mk 9 [.mk 15 [.mk T us]]]
        rw [encCR_ok'] at hp
        rw [show cWorld 84 ([]) (.mk T us :: .mk 4 vs :: q) = cOk (.mk 9 [.mk 15 [.mk T us]] :: q) from by simp [cWorld, tyT, tyArg, tyArgs, List.getD_cons_zero, List.getD_cons_succ, cCode, g2]]
        rw [encCR_ok']
        refine QCalls.of Tryd.func40 rfl (fun args w => Tryd.call40 args w) (Nat.le_of_ble_eq_true rfl) [(0, .c (.int .i64 84)), (1, .c (.sl 2 (encTys ([])))), (2, .c (.sl 2 (encTys (.mk T us :: .mk 4 vs :: q))))] rfl fun β hβ => ?_; have hf := Tryd.func40
        repeat' (first | refine st ?_ | (refine AK.condS rfl (fun h => ?_) (fun h => ?_) <;> first | (cases h; done) | rw [h] | skip) | refine uW hf rfl rfl ?_ | refine uC rfl hk ?_ | refine uC rfl h2 ?_ | refine uC rfl hp ?_ | refine uC rfl (one_calls 15 [.mk T us]) ?_ | refine uC rfl (one_calls 9 [.mk 15 [.mk T us]]) ?_ | refine uI rfl (0) rfl (rfl) rfl ?_ | refine uI rfl (1) rfl (rfl) rfl ?_ | refine uI rfl (2) rfl (rfl) rfl ?_ | ((first | refine AOps.splitT rfl rfl rfl asm (fun h => ?_) | refine AOps.splitF rfl rfl rfl asm (fun h => ?_) | refine AOps.split rfl rfl rfl (fun h => ?_) (fun h => ?_)) <;> (fail_if_success (cases h; done)) <;> rw [h]))
        all_goals first | exact Wk.refl _ | exact wk_bad rfl rfl | exact wk_nil2
    · skip
      have hk := ckinds_calls (.mk T us :: .mk U vs :: q) [0, 4]
      rw [show kOk (.mk T us :: .mk U vs :: q) [0, 4] = false from by (simp [kOk_c, kOk_n, kOk_end, hU]) <;> assumption] at hk
      rw [show cWorld 84 ([]) (.mk T us :: .mk U vs :: q) = cBad 5 from by simp [cWorld, tyT, tyArg, tyArgs, List.getD_cons_zero, List.getD_cons_succ, cCode, hU]]
      rw [encCR_bad (by decide)]
      refine QCalls.of Tryd.func40 rfl (fun args w => Tryd.call40 args w) (Nat.le_of_ble_eq_true rfl) [(0, .c (.int .i64 84)), (1, .c (.sl 2 (encTys ([])))), (2, .c (.sl 2 (encTys (.mk T us :: .mk U vs :: q))))] rfl fun β hβ => ?_; have hf := Tryd.func40
      repeat' (first | refine st ?_ | (refine AK.condS rfl (fun h => ?_) (fun h => ?_) <;> first | (cases h; done) | rw [h] | skip) | refine uW hf rfl rfl ?_ | refine uC rfl hk ?_ | refine uI rfl (0) rfl (rfl) rfl ?_ | refine uI rfl (1) rfl (rfl) rfl ?_ | refine uI rfl (2) rfl (rfl) rfl ?_ | ((first | refine AOps.splitT rfl rfl rfl asm (fun h => ?_) | refine AOps.splitF rfl rfl rfl asm (fun h => ?_) | refine AOps.split rfl rfl rfl (fun h => ?_) (fun h => ?_)) <;> (fail_if_success (cases h; done)) <;> rw [h]))
      all_goals first | exact Wk.refl _ | exact wk_bad rfl rfl | exact wk_nil2
  · obtain ⟨rfl, rfl⟩ := cFits_nil hf rfl
    clear hf
    rcases s with _ | ⟨⟨T, us⟩, r⟩
    · skip
      have hk := ckinds_calls ([]) [15]
      rw [show kOk ([]) [15] = false from by (simp [kOk_c, kOk_n, kOk_end]) <;> assumption] at hk
      rw [show cWorld 85 ([]) ([]) = cBad 5 from by simp [cWorld, tyT, tyArg, tyArgs, List.getD_cons_zero, List.getD_cons_succ, cCode]]
      rw [encCR_bad (by decide)]
      refine QCalls.of Tryd.func40 rfl (fun args w => Tryd.call40 args w) (Nat.le_of_ble_eq_true rfl) [(0, .c (.int .i64 85)), (1, .c (.sl 2 (encTys ([])))), (2, .c (.sl 2 (encTys ([]))))] rfl fun β hβ => ?_; have hf := Tryd.func40
      repeat' (first | refine st ?_ | (refine AK.condS rfl (fun h => ?_) (fun h => ?_) <;> first | (cases h; done) | rw [h] | skip) | refine uW hf rfl rfl ?_ | refine uC rfl hk ?_ | refine uI rfl (0) rfl (rfl) rfl ?_ | refine uI rfl (1) rfl (rfl) rfl ?_ | refine uI rfl (2) rfl (rfl) rfl ?_ | ((first | refine AOps.splitT rfl rfl rfl asm (fun h => ?_) | refine AOps.splitF rfl rfl rfl asm (fun h => ?_) | refine AOps.split rfl rfl rfl (fun h => ?_) (fun h => ?_)) <;> (fail_if_success (cases h; done)) <;> rw [h]))
      all_goals first | exact Wk.refl _ | exact wk_bad rfl rfl | exact wk_nil2
    by_cases hT : T = 15
    · subst hT
      obtain ⟨⟨X, xs⟩, rfl, hx⟩ := tyOk_one (hs _ (List.mem_cons_self ..)) rfl
      have hk := ckinds_calls (.mk 15 [.mk X xs] :: r) [15]
      rw [show kOk (.mk 15 [.mk X xs] :: r) [15] = true from by (simp [kOk_c, kOk_n, kOk_end]) <;> assumption] at hk
      have hp := cput_calls (.mk 15 [.mk X xs] :: r) [.mk 11 [.mk 7 [], .mk 11 [.mk X xs, .mk 4 []]]]
      rw [encCR_ok'] at hp
      rw [show cWorld 85 ([]) (.mk 15 [.mk X xs] :: r) = cOk (.mk 11 [.mk 7 [], .mk 11 [.mk X xs, .mk 4 []]] :: .mk 15 [.mk X xs] :: r) from by simp [cWorld, tyT, tyArg, tyArgs, List.getD_cons_zero, List.getD_cons_succ, cCode]]
      rw [encCR_ok']
      refine QCalls.of Tryd.func40 rfl (fun args w => Tryd.call40 args w) (Nat.le_of_ble_eq_true rfl) [(0, .c (.int .i64 85)), (1, .c (.sl 2 (encTys ([])))), (2, .c (.sl 2 (encTys (.mk 15 [.mk X xs] :: r))))] rfl fun β hβ => ?_; have hf := Tryd.func40
      repeat' (first | refine st ?_ | (refine AK.condS rfl (fun h => ?_) (fun h => ?_) <;> first | (cases h; done) | rw [h] | skip) | refine uW hf rfl rfl ?_ | refine uC rfl hk ?_ | refine uC rfl hp ?_ | refine uC rfl (one0_calls 7) ?_ | refine uC rfl (one0_calls 4) ?_ | refine uC rfl (one_calls 11 [.mk X xs, .mk 4 []]) ?_ | refine uC rfl (one_calls 11 [.mk 7 [], .mk 11 [.mk X xs, .mk 4 []]]) ?_ | refine uI rfl (0) rfl (rfl) rfl ?_ | refine uI rfl (1) rfl (rfl) rfl ?_ | refine uI rfl (2) rfl (rfl) rfl ?_ | ((first | refine AOps.splitT rfl rfl rfl asm (fun h => ?_) | refine AOps.splitF rfl rfl rfl asm (fun h => ?_) | refine AOps.split rfl rfl rfl (fun h => ?_) (fun h => ?_)) <;> (fail_if_success (cases h; done)) <;> rw [h]))
      all_goals first | exact Wk.refl _ | exact wk_bad rfl rfl | exact wk_nil2
    · skip
      have hk := ckinds_calls (.mk T us :: r) [15]
      rw [show kOk (.mk T us :: r) [15] = false from by (simp [kOk_c, kOk_n, kOk_end, hT]) <;> assumption] at hk
      rw [show cWorld 85 ([]) (.mk T us :: r) = cBad 5 from by simp [cWorld, tyT, tyArg, tyArgs, List.getD_cons_zero, List.getD_cons_succ, cCode, hT]]
      rw [encCR_bad (by decide)]
      refine QCalls.of Tryd.func40 rfl (fun args w => Tryd.call40 args w) (Nat.le_of_ble_eq_true rfl) [(0, .c (.int .i64 85)), (1, .c (.sl 2 (encTys ([])))), (2, .c (.sl 2 (encTys (.mk T us :: r))))] rfl fun β hβ => ?_; have hf := Tryd.func40
      repeat' (first | refine st ?_ | (refine AK.condS rfl (fun h => ?_) (fun h => ?_) <;> first | (cases h; done) | rw [h] | skip) | refine uW hf rfl rfl ?_ | refine uC rfl hk ?_ | refine uI rfl (0) rfl (rfl) rfl ?_ | refine uI rfl (1) rfl (rfl) rfl ?_ | refine uI rfl (2) rfl (rfl) rfl ?_ | ((first | refine AOps.splitT rfl rfl rfl asm (fun h => ?_) | refine AOps.splitF rfl rfl rfl asm (fun h => ?_) | refine AOps.split rfl rfl rfl (fun h => ?_) (fun h => ?_)) <;> (fail_if_success (cases h; done)) <;> rw [h]))
      all_goals first | exact Wk.refl _ | exact wk_bad rfl rfl | exact wk_nil2
  · obtain ⟨rfl, rfl⟩ := cFits_nil hf rfl
    clear hf
    rcases s with _ | ⟨⟨T, us⟩, _ | ⟨⟨U, vs⟩, q⟩⟩
    · skip
      have hk := ckinds_calls ([]) [15, 11]
      rw [show kOk ([]) [15, 11] = false from by (simp [kOk_c, kOk_n, kOk_end]) <;> assumption] at hk
      rw [show cWorld 86 ([]) ([]) = cBad 5 from by simp [cWorld, tyT, tyArg, tyArgs, List.getD_cons_zero, List.getD_cons_succ, cCode]]
      rw [encCR_bad (by decide)]
      refine QCalls.of Tryd.func40 rfl (fun args w => Tryd.call40 args w) (Nat.le_of_ble_eq_true rfl) [(0, .c (.int .i64 86)), (1, .c (.sl 2 (encTys ([])))), (2, .c (.sl 2 (encTys ([]))))] rfl fun β hβ => ?_; have hf := Tryd.func40
      repeat' (first | refine st ?_ | (refine AK.condS rfl (fun h => ?_) (fun h => ?_) <;> first | (cases h; done) | rw [h] | skip) | refine uW hf rfl rfl ?_ | refine uC rfl hk ?_ | refine uI rfl (0) rfl (rfl) rfl ?_ | refine uI rfl (1) rfl (rfl) rfl ?_ | refine uI rfl (2) rfl (rfl) rfl ?_ | ((first | refine AOps.splitT rfl rfl rfl asm (fun h => ?_) | refine AOps.splitF rfl rfl rfl asm (fun h => ?_) | refine AOps.split rfl rfl rfl (fun h => ?_) (fun h => ?_)) <;> (fail_if_success (cases h; done)) <;> rw [h]))
      all_goals first | exact Wk.refl _ | exact wk_bad rfl rfl | exact wk_nil2
    · skip
      have hk := ckinds_calls ([.mk T us]) [15, 11]
      rw [show kOk ([.mk T us]) [15, 11] = false from by (simp [kOk_c, kOk_n, kOk_end]) <;> assumption] at hk
      rw [show cWorld 86 ([]) ([.mk T us]) = cBad 5 from by simp [cWorld, tyT, tyArg, tyArgs, List.getD_cons_zero, List.getD_cons_succ, cCode]]
      rw [encCR_bad (by decide)]
      refine QCalls.of Tryd.func40 rfl (fun args w => Tryd.call40 args w) (Nat.le_of_ble_eq_true rfl) [(0, .c (.int .i64 86)), (1, .c (.sl 2 (encTys ([])))), (2, .c (.sl 2 (encTys ([.mk T us]))))] rfl fun β hβ => ?_; have hf := Tryd.func40
      repeat' (first | refine st ?_ | (refine AK.condS rfl (fun h => ?_) (fun h => ?_) <;> first | (cases h; done) | rw [h] | skip) | refine uW hf rfl rfl ?_ | refine uC rfl hk ?_ | refine uI rfl (0) rfl (rfl) rfl ?_ | refine uI rfl (1) rfl (rfl) rfl ?_ | refine uI rfl (2) rfl (rfl) rfl ?_ | ((first | refine AOps.splitT rfl rfl rfl asm (fun h => ?_) | refine AOps.splitF rfl rfl rfl asm (fun h => ?_) | refine AOps.split rfl rfl rfl (fun h => ?_) (fun h => ?_)) <;> (fail_if_success (cases h; done)) <;> rw [h]))
      all_goals first | exact Wk.refl _ | exact wk_bad rfl rfl | exact wk_nil2
    by_cases hT : T = 15 ∧ U = 11
    · obtain ⟨rfl, rfl⟩ := hT
      obtain ⟨⟨X, xs⟩, ⟨Y, ys⟩, rfl, hx, hy⟩ := tyOk_two (hs (.mk 11 vs) (by simp)) rfl
      have hk := ckinds_calls (.mk 15 us :: .mk 11 [.mk X xs, .mk Y ys] :: q) [15, 11]
      rw [show kOk (.mk 15 us :: .mk 11 [.mk X xs, .mk Y ys] :: q) [15, 11] = true from by (simp [kOk_c, kOk_n, kOk_end]) <;> assumption] at hk
      by_cases hX : X = 4
      · subst hX
        by_cases hY : Y = 4
        · subst hY
          have hp := cput_calls (q) [.mk 9 [.mk 11 [.mk 15 us, .mk 15 us]]]
          rw [encCR_ok'] at hp
          rw [show cWorld 86 ([]) (.mk 15 us :: .mk 11 [.mk 4 xs, .mk 4 ys] :: q) = cOk (.mk 9 [.mk 11 [.mk 15 us, .mk 15 us]] :: q) from by simp [cWorld, tyT, tyArg, tyArgs, List.getD_cons_zero, List.getD_cons_succ, cCode]]
          rw [encCR_ok']
          refine QCalls.of Tryd.func40 rfl (fun args w => Tryd.call40 args w) (Nat.le_of_ble_eq_true rfl) [(0, .c (.int .i64 86)), (1, .c (.sl 2 (encTys ([])))), (2, .c (.sl 2 (encTys (.mk 15 us :: .mk 11 [.mk 4 xs, .mk 4 ys] :: q))))] rfl fun β hβ => ?_; have hf := Tryd.func40
          repeat' (first | refine st ?_ | (refine AK.condS rfl (fun h => ?_) (fun h => ?_) <;> first | (cases h; done) | rw [h] | skip) | refine uW hf rfl rfl ?_ | refine uC rfl hk ?_ | refine uC rfl hp ?_ | refine uC rfl (one_calls 11 [.mk 15 us, .mk 15 us]) ?_ | refine uC rfl (one_calls 9 [.mk 11 [.mk 15 us, .mk 15 us]]) ?_ | refine uI rfl (0) rfl (rfl) rfl ?_ | refine uI rfl (1) rfl (rfl) rfl ?_ | refine uI rfl (2) rfl (rfl) rfl ?_ | ((first | refine AOps.splitT rfl rfl rfl asm (fun h => ?_) | refine AOps.splitF rfl rfl rfl asm (fun h => ?_) | refine AOps.split rfl rfl rfl (fun h => ?_) (fun h => ?_)) <;> (fail_if_success (cases h; done)) <;> rw [h]))
          all_goals first | exact Wk.refl _ | exact wk_bad rfl rfl | exact wk_nil2
        · have e2 : (Y == 4) = false := by simpa using hY
          rw [show cWorld 86 ([]) (.mk 15 us :: .mk 11 [.mk 4 xs, .mk Y ys] :: q) = cBad 5 from by simp [cWorld, tyT, tyArg, tyArgs, List.getD_cons_zero, List.getD_cons_succ, cCode, hY]]
          rw [encCR_bad (by decide)]
          refine QCalls.of Tryd.func40 rfl (fun args w => Tryd.call40 args w) (Nat.le_of_ble_eq_true rfl) [(0, .c (.int .i64 86)), (1, .c (.sl 2 (encTys ([])))), (2, .c (.sl 2 (encTys (.mk 15 us :: .mk 11 [.mk 4 xs, .mk Y ys] :: q))))] rfl fun β hβ => ?_; have hf := Tryd.func40
          repeat' (first | refine st ?_ | (refine AK.condS rfl (fun h => ?_) (fun h => ?_) <;> first | (cases h; done) | rw [h] | skip) | refine uW hf rfl rfl ?_ | refine uC rfl hk ?_ | refine uI rfl (0) rfl (rfl) rfl ?_ | refine uI rfl (1) rfl (rfl) rfl ?_ | refine uI rfl (2) rfl (rfl) rfl ?_ | ((first | refine AOps.splitT rfl rfl rfl asm (fun h => ?_) | refine AOps.splitF rfl rfl rfl asm (fun h => ?_) | refine AOps.split rfl rfl rfl (fun h => ?_) (fun h => ?_)) <;> (fail_if_success (cases h; done)) <;> rw [h]))
          all_goals first | exact Wk.refl _ | exact wk_bad rfl rfl | exact wk_nil2
      · have e2 : (X == 4) = false := by simpa using hX
        rw [show cWorld 86 ([]) (.mk 15 us :: .mk 11 [.mk X xs, .mk Y ys] :: q) = cBad 5 from by simp [cWorld, tyT, tyArg, tyArgs, List.getD_cons_zero, List.getD_cons_succ, cCode, hX]]
        rw [encCR_bad (by decide)]
        refine QCalls.of Tryd.func40 rfl (fun args w => Tryd.call40 args w) (Nat.le_of_ble_eq_true rfl) [(0, .c (.int .i64 86)), (1, .c (.sl 2 (encTys ([])))), (2, .c (.sl 2 (encTys (.mk 15 us :: .mk 11 [.mk X xs, .mk Y ys] :: q))))] rfl fun β hβ => ?_; have hf := Tryd.func40
        repeat' (first | refine st ?_ | (refine AK.condS rfl (fun h => ?_) (fun h => ?_) <;> first | (cases h; done) | rw [h] | skip) | refine uW hf rfl rfl ?_ | refine uC rfl hk ?_ | refine uI rfl (0) rfl (rfl) rfl ?_ | refine uI rfl (1) rfl (rfl) rfl ?_ | refine uI rfl (2) rfl (rfl) rfl ?_ | ((first | refine AOps.splitT rfl rfl rfl asm (fun h => ?_) | refine AOps.splitF rfl rfl rfl asm (fun h => ?_) | refine AOps.split rfl rfl rfl (fun h => ?_) (fun h => ?_)) <;> (fail_if_success (cases h; done)) <;> rw [h]))
        all_goals first | exact Wk.refl _ | exact wk_bad rfl rfl | exact wk_nil2
    · have hT2 : T = 15 → ¬ U = 11 := fun a b => hT ⟨a, b⟩
      have hk := ckinds_calls (.mk T us :: .mk U vs :: q) [15, 11]
      rw [show kOk (.mk T us :: .mk U vs :: q) [15, 11] = false from by (simp [kOk_c, kOk_n, kOk_end, hT2]) <;> assumption] at hk
      have hT3 : ¬ (T = 15 ∧ U = 11 ∧ tyT (vs.getD 0 ty0) = 4 ∧ tyT (vs.getD 1 ty0) = 4) := fun h => hT ⟨h.1, h.2.1⟩
      rw [show cWorld 86 ([]) (.mk T us :: .mk U vs :: q) = cBad 5 from by unfold cWorld; rw [if_neg (by decide), if_neg (by decide)]; dsimp only; rw [if_neg (by decide), if_neg (by decide), if_pos rfl]; exact if_neg hT3, encCR_bad (by decide)]
      refine QCalls.of Tryd.func40 rfl (fun args w => Tryd.call40 args w) (Nat.le_of_ble_eq_true rfl) [(0, .c (.int .i64 86)), (1, .c (.sl 2 (encTys ([])))), (2, .c (.sl 2 (encTys (.mk T us :: .mk U vs :: q))))] rfl fun β hβ => ?_; have hf := Tryd.func40
      repeat' (first | refine st ?_ | (refine AK.condS rfl (fun h => ?_) (fun h => ?_) <;> first | (cases h; done) | rw [h] | skip) | refine uW hf rfl rfl ?_ | refine uC rfl hk ?_ | refine uI rfl (0) rfl (rfl) rfl ?_ | refine uI rfl (1) rfl (rfl) rfl ?_ | refine uI rfl (2) rfl (rfl) rfl ?_ | ((first | refine AOps.splitT rfl rfl rfl asm (fun h => ?_) | refine AOps.splitF rfl rfl rfl asm (fun h => ?_) | refine AOps.split rfl rfl rfl (fun h => ?_) (fun h => ?_)) <;> (fail_if_success (cases h; done)) <;> rw [h]))
      all_goals first | exact Wk.refl _ | exact wk_bad rfl rfl
  · obtain ⟨rfl, rfl⟩ := cFits_nil hf rfl
    clear hf
    rcases s with _ | ⟨⟨T, us⟩, r⟩
    · skip
      have hk := ckinds_calls ([]) [11]
      rw [show kOk ([]) [11] = false from by (simp [kOk_c, kOk_n, kOk_end]) <;> assumption] at hk
      rw [show cWorld 87 ([]) ([]) = cBad 5 from by simp [cWorld, tyT, tyArg, tyArgs, List.getD_cons_zero, List.getD_cons_succ, cCode]]
      rw [encCR_bad (by decide)]
      refine QCalls.of Tryd.func40 rfl (fun args w => Tryd.call40 args w) (Nat.le_of_ble_eq_true rfl) [(0, .c (.int .i64 87)), (1, .c (.sl 2 (encTys ([])))), (2, .c (.sl 2 (encTys ([]))))] rfl fun β hβ => ?_; have hf := Tryd.func40
      repeat' (first | refine st ?_ | (refine AK.condS rfl (fun h => ?_) (fun h => ?_) <;> first | (cases h; done) | rw [h] | skip) | refine uW hf rfl rfl ?_ | refine uC rfl hk ?_ | refine uI rfl (0) rfl (rfl) rfl ?_ | refine uI rfl (1) rfl (rfl) rfl ?_ | refine uI rfl (2) rfl (rfl) rfl ?_ | ((first | refine AOps.splitT rfl rfl rfl asm (fun h => ?_) | refine AOps.splitF rfl rfl rfl asm (fun h => ?_) | refine AOps.split rfl rfl rfl (fun h => ?_) (fun h => ?_)) <;> (fail_if_success (cases h; done)) <;> rw [h]))
      all_goals first | exact Wk.refl _ | exact wk_bad rfl rfl | exact wk_nil2
    by_cases hT : T = 11
    · subst hT
      obtain ⟨⟨X, xs⟩, ⟨Y, ys⟩, rfl, hx, hy⟩ := tyOk_two (hs (.mk 11 us) (by simp)) rfl
      have hk := ckinds_calls (.mk 11 [.mk X xs, .mk Y ys] :: r) [11]
      rw [show kOk (.mk 11 [.mk X xs, .mk Y ys] :: r) [11] = true from by (simp [kOk_c, kOk_n, kOk_end]) <;> assumption] at hk
      have hx2 := hx.2
      have h1 := Same_calls (.mk X xs) (.mk Y ys) (by omega)
      by_cases hX : X = 15
      · subst hX
        cases g1 : tySame (.mk 15 xs) (.mk Y ys)
        · rw [g1] at h1
          rw [show cWorld 87 ([]) (.mk 11 [.mk 15 xs, .mk Y ys] :: r) = cBad 5 from by simp [cWorld, tyT, tyArg, tyArgs, List.getD_cons_zero, List.getD_cons_succ, cCode, g1]]
          rw [encCR_bad (by decide)]
          refine QCalls.of Tryd.func40 rfl (fun args w => Tryd.call40 args w) (Nat.le_of_ble_eq_true rfl) [(0, .c (.int .i64 87)), (1, .c (.sl 2 (encTys ([])))), (2, .c (.sl 2 (encTys (.mk 11 [.mk 15 xs, .mk Y ys] :: r))))] rfl fun β hβ => ?_; have hf := Tryd.func40
          repeat' (first | refine st ?_ | (refine AK.condS rfl (fun h => ?_) (fun h => ?_) <;> first | (cases h; done) | rw [h] | skip) | refine uW hf rfl rfl ?_ | refine uC rfl hk ?_ | refine uC rfl h1 ?_ | refine uI rfl (0) rfl (rfl) rfl ?_ | refine uI rfl (1) rfl (rfl) rfl ?_ | refine uI rfl (2) rfl (rfl) rfl ?_ | ((first | refine AOps.splitT rfl rfl rfl asm (fun h => ?_) | refine AOps.splitF rfl rfl rfl asm (fun h => ?_) | refine AOps.split rfl rfl rfl (fun h => ?_) (fun h => ?_)) <;> (fail_if_success (cases h; done)) <;> rw [h]))
          all_goals first | exact Wk.refl _ | exact wk_bad rfl rfl | exact wk_nil2
        · rw [g1] at h1
          have hp := cput_calls (r) [.mk 9 [.mk 15 xs]]
          rw [encCR_ok'] at hp
          rw [show cWorld 87 ([]) (.mk 11 [.mk 15 xs, .mk Y ys] :: r) = cOk (.mk 9 [.mk 15 xs] :: r) from by simp [cWorld, tyT, tyArg, tyArgs, List.getD_cons_zero, List.getD_cons_succ, cCode, g1]]
          rw [encCR_ok']
          refine QCalls.of Tryd.func40 rfl (fun args w => Tryd.call40 args w) (Nat.le_of_ble_eq_true rfl) [(0, .c (.int .i64 87)), (1, .c (.sl 2 (encTys ([])))), (2, .c (.sl 2 (encTys (.mk 11 [.mk 15 xs, .mk Y ys] :: r))))] rfl fun β hβ => ?_; have hf := Tryd.func40
          repeat' (first | refine st ?_ | (refine AK.condS rfl (fun h => ?_) (fun h => ?_) <;> first | (cases h; done) | rw [h] | skip) | refine uW hf rfl rfl ?_ | refine uC rfl hk ?_ | refine uC rfl h1 ?_ | refine uC rfl hp ?_ | refine uC rfl (one_calls 9 [.mk 15 xs]) ?_ | refine uI rfl (0) rfl (rfl) rfl ?_ | refine uI rfl (1) rfl (rfl) rfl ?_ | refine uI rfl (2) rfl (rfl) rfl ?_ | ((first | refine AOps.splitT rfl rfl rfl asm (fun h => ?_) | refine AOps.splitF rfl rfl rfl asm (fun h => ?_) | refine AOps.split rfl rfl rfl (fun h => ?_) (fun h => ?_)) <;> (fail_if_success (cases h; done)) <;> rw [h]))
          all_goals first | exact Wk.refl _ | exact wk_bad rfl rfl | exact wk_nil2
      · have e2 : (X == 15) = false := by simpa using hX
        rw [show cWorld 87 ([]) (.mk 11 [.mk X xs, .mk Y ys] :: r) = cBad 5 from by simp [cWorld, tyT, tyArg, tyArgs, List.getD_cons_zero, List.getD_cons_succ, cCode, hX]]
        rw [encCR_bad (by decide)]
        refine QCalls.of Tryd.func40 rfl (fun args w => Tryd.call40 args w) (Nat.le_of_ble_eq_true rfl) [(0, .c (.int .i64 87)), (1, .c (.sl 2 (encTys ([])))), (2, .c (.sl 2 (encTys (.mk 11 [.mk X xs, .mk Y ys] :: r))))] rfl fun β hβ => ?_; have hf := Tryd.func40
        repeat' (first | refine st ?_ | (refine AK.condS rfl (fun h => ?_) (fun h => ?_) <;> first | (cases h; done) | rw [h] | skip) | refine uW hf rfl rfl ?_ | refine uC rfl hk ?_ | refine uI rfl (0) rfl (rfl) rfl ?_ | refine uI rfl (1) rfl (rfl) rfl ?_ | refine uI rfl (2) rfl (rfl) rfl ?_ | ((first | refine AOps.splitT rfl rfl rfl asm (fun h => ?_) | refine AOps.splitF rfl rfl rfl asm (fun h => ?_) | refine AOps.split rfl rfl rfl (fun h => ?_) (fun h => ?_)) <;> (fail_if_success (cases h; done)) <;> rw [h]))
        all_goals first | exact Wk.refl _ | exact wk_bad rfl rfl | exact wk_nil2
    · skip
      have hk := ckinds_calls (.mk T us :: r) [11]
      rw [show kOk (.mk T us :: r) [11] = false from by (simp [kOk_c, kOk_n, kOk_end, hT]) <;> assumption] at hk
      rw [show cWorld 87 ([]) (.mk T us :: r) = cBad 5 from by simp [cWorld, tyT, tyArg, tyArgs, List.getD_cons_zero, List.getD_cons_succ, cCode, hT]]
      rw [encCR_bad (by decide)]
      refine QCalls.of Tryd.func40 rfl (fun args w => Tryd.call40 args w) (Nat.le_of_ble_eq_true rfl) [(0, .c (.int .i64 87)), (1, .c (.sl 2 (encTys ([])))), (2, .c (.sl 2 (encTys (.mk T us :: r))))] rfl fun β hβ => ?_; have hf := Tryd.func40
      repeat' (first | refine st ?_ | (refine AK.condS rfl (fun h => ?_) (fun h => ?_) <;> first | (cases h; done) | rw [h] | skip) | refine uW hf rfl rfl ?_ | refine uC rfl hk ?_ | refine uI rfl (0) rfl (rfl) rfl ?_ | refine uI rfl (1) rfl (rfl) rfl ?_ | refine uI rfl (2) rfl (rfl) rfl ?_ | ((first | refine AOps.splitT rfl rfl rfl asm (fun h => ?_) | refine AOps.splitF rfl rfl rfl asm (fun h => ?_) | refine AOps.split rfl rfl rfl (fun h => ?_) (fun h => ?_)) <;> (fail_if_success (cases h; done)) <;> rw [h]))
      all_goals first | exact Wk.refl _ | exact wk_bad rfl rfl | exact wk_nil2
  · obtain ⟨x0, t, rfl, rfl, ht⟩ := cFits_t hf rfl
    clear hf
    have ht2 := ht.2
    obtain ⟨V, ws⟩ := t
    rcases s with _ | ⟨⟨T, us⟩, _ | ⟨⟨U, vs⟩, _ | ⟨⟨W, qs⟩, q⟩⟩⟩
    · skip
      have hk := ckinds_calls ([]) [0, 5, 7]
      rw [show kOk ([]) [0, 5, 7] = false from by (simp [kOk_c, kOk_n, kOk_end]) <;> assumption] at hk
      rw [show cWorld 88 ([.mk V ws]) ([]) = cBad 5 from by simp [cWorld, tyT, tyArg, tyArgs, List.getD_cons_zero, List.getD_cons_succ, cCode]]
      rw [encCR_bad (by decide)]
      refine QCalls.of Tryd.func40 rfl (fun args w => Tryd.call40 args w) (Nat.le_of_ble_eq_true rfl) [(0, .c (.int .i64 88)), (1, .c (.sl 2 (encTys ([.mk V ws])))), (2, .c (.sl 2 (encTys ([]))))] rfl fun β hβ => ?_; have hf := Tryd.func40
      repeat' (first | refine st ?_ | (refine AK.condS rfl (fun h => ?_) (fun h => ?_) <;> first | (cases h; done) | rw [h] | skip) | refine uW hf rfl rfl ?_ | refine uC rfl hk ?_ | refine uI rfl (0) rfl (rfl) rfl ?_ | refine uI rfl (1) rfl (rfl) rfl ?_ | refine uI rfl (2) rfl (rfl) rfl ?_ | ((first | refine AOps.splitT rfl rfl rfl asm (fun h => ?_) | refine AOps.splitF rfl rfl rfl asm (fun h => ?_) | refine AOps.split rfl rfl rfl (fun h => ?_) (fun h => ?_)) <;> (fail_if_success (cases h; done)) <;> rw [h]))
      all_goals first | exact Wk.refl _ | exact wk_bad rfl rfl | exact wk_nil2
    · skip
      have hk := ckinds_calls ([.mk T us]) [0, 5, 7]
      rw [show kOk ([.mk T us]) [0, 5, 7] = false from by (simp [kOk_c, kOk_n, kOk_end]) <;> assumption] at hk
      rw [show cWorld 88 ([.mk V ws]) ([.mk T us]) = cBad 5 from by simp [cWorld, tyT, tyArg, tyArgs, List.getD_cons_zero, List.getD_cons_succ, cCode]]
      rw [encCR_bad (by decide)]
      refine QCalls.of Tryd.func40 rfl (fun args w => Tryd.call40 args w) (Nat.le_of_ble_eq_true rfl) [(0, .c (.int .i64 88)), (1, .c (.sl 2 (encTys ([.mk V ws])))), (2, .c (.sl 2 (encTys ([.mk T us]))))] rfl fun β hβ => ?_; have hf := Tryd.func40
      repeat' (first | refine st ?_ | (refine AK.condS rfl (fun h => ?_) (fun h => ?_) <;> first | (cases h; done) | rw [h] | skip) | refine uW hf rfl rfl ?_ | refine uC rfl hk ?_ | refine uI rfl (0) rfl (rfl) rfl ?_ | refine uI rfl (1) rfl (rfl) rfl ?_ | refine uI rfl (2) rfl (rfl) rfl ?_ | ((first | refine AOps.splitT rfl rfl rfl asm (fun h => ?_) | refine AOps.splitF rfl rfl rfl asm (fun h => ?_) | refine AOps.split rfl rfl rfl (fun h => ?_) (fun h => ?_)) <;> (fail_if_success (cases h; done)) <;> rw [h]))
      all_goals first | exact Wk.refl _ | exact wk_bad rfl rfl | exact wk_nil2
    · skip
      have hk := ckinds_calls ([.mk T us, .mk U vs]) [0, 5, 7]
      rw [show kOk ([.mk T us, .mk U vs]) [0, 5, 7] = false from by (simp [kOk_c, kOk_n, kOk_end]) <;> assumption] at hk
      rw [show cWorld 88 ([.mk V ws]) ([.mk T us, .mk U vs]) = cBad 5 from by simp [cWorld, tyT, tyArg, tyArgs, List.getD_cons_zero, List.getD_cons_succ, cCode]]
      rw [encCR_bad (by decide)]
      refine QCalls.of Tryd.func40 rfl (fun args w => Tryd.call40 args w) (Nat.le_of_ble_eq_true rfl) [(0, .c (.int .i64 88)), (1, .c (.sl 2 (encTys ([.mk V ws])))), (2, .c (.sl 2 (encTys ([.mk T us, .mk U vs]))))] rfl fun β hβ => ?_; have hf := Tryd.func40
      repeat' (first | refine st ?_ | (refine AK.condS rfl (fun h => ?_) (fun h => ?_) <;> first | (cases h; done) | rw [h] | skip) | refine uW hf rfl rfl ?_ | refine uC rfl hk ?_ | refine uI rfl (0) rfl (rfl) rfl ?_ | refine uI rfl (1) rfl (rfl) rfl ?_ | refine uI rfl (2) rfl (rfl) rfl ?_ | ((first | refine AOps.splitT rfl rfl rfl asm (fun h => ?_) | refine AOps.splitF rfl rfl rfl asm (fun h => ?_) | refine AOps.split rfl rfl rfl (fun h => ?_) (fun h => ?_)) <;> (fail_if_success (cases h; done)) <;> rw [h]))
      all_goals first | exact Wk.refl _ | exact wk_bad rfl rfl | exact wk_nil2
    have h1 := Same_calls (.mk T us) (.mk V ws) (by have := (hs (.mk T us) (by simp)).2; omega)
    have h2 := Stored_calls (.mk T us) (by have := (hs (.mk T us) (by simp)).2; omega)
    by_cases hU : U = 5 ∧ W = 7
    · obtain ⟨rfl, rfl⟩ := hU
      have hk := ckinds_calls (.mk T us :: .mk 5 vs :: .mk 7 qs :: q) [0, 5, 7]
      rw [show kOk (.mk T us :: .mk 5 vs :: .mk 7 qs :: q) [0, 5, 7] = true from by (simp [kOk_c, kOk_n, kOk_end]) <;> assumption] at hk
      cases g1 : tySame (.mk T us) (.mk V ws)
      · rw [g1] at h1
        rw [show cWorld 88 ([.mk V ws]) (.mk T us :: .mk 5 vs :: .mk 7 qs :: q) = cBad 5 from by simp [cWorld, tyT, tyArg, tyArgs, List.getD_cons_zero, List.getD_cons_succ, cCode, g1]]
        rw [encCR_bad (by decide)]
        refine QCalls.of Tryd.func40 rfl (fun args w => Tryd.call40 args w) (Nat.le_of_ble_eq_true rfl) [(0, .c (.int .i64 88)), (1, .c (.sl 2 (encTys ([.mk V ws])))), (2, .c (.sl 2 (encTys (.mk T us :: .mk 5 vs :: .mk 7 qs :: q))))] rfl fun β hβ => ?_; have hf := Tryd.func40
        repeat' (first | refine st ?_ | (refine AK.condS rfl (fun h => ?_) (fun h => ?_) <;> first | (cases h; done) | rw [h] | skip) | refine uW hf rfl rfl ?_ | refine uC rfl hk ?_ | refine uC rfl h1 ?_ | refine uI rfl (0) rfl (rfl) rfl ?_ | refine uI rfl (1) rfl (rfl) rfl ?_ | refine uI rfl (2) rfl (rfl) rfl ?_ | ((first | refine AOps.splitT rfl rfl rfl asm (fun h => ?_) | refine AOps.splitF rfl rfl rfl asm (fun h => ?_) | refine AOps.split rfl rfl rfl (fun h => ?_) (fun h => ?_)) <;> (fail_if_success (cases h; done)) <;> rw [h]))
        all_goals first | exact Wk.refl _ | exact wk_bad rfl rfl | exact wk_nil2
      cases g2 : tStore (.mk T us)
      · rw [g1] at h1; rw [g2] at h2
        rw [show cWorld 88 ([.mk V ws]) (.mk T us :: .mk 5 vs :: .mk 7 qs :: q) = cBad 5 from by simp [cWorld, tyT, tyArg, tyArgs, List.getD_cons_zero, List.getD_cons_succ, cCode, g1, g2]]
        rw [encCR_bad (by decide)]
        refine QCalls.of Tryd.func40 rfl (fun args w => Tryd.call40 args w) (Nat.le_of_ble_eq_true rfl) [(0, .c (.int .i64 88)), (1, .c (.sl 2 (encTys ([.mk V ws])))), (2, .c (.sl 2 (encTys (.mk T us :: .mk 5 vs :: .mk 7 qs :: q))))] rfl fun β hβ => ?_; have hf := Tryd.func40
        repeat' (first | refine st ?_ | (refine AK.condS rfl (fun h => ?_) (fun h => ?_) <;> first | (cases h; done) | rw [h] | skip) | refine uW hf rfl rfl ?_ | refine uC rfl hk ?_ | refine uC rfl h1 ?_ | refine uC rfl h2 ?_ | refine uI rfl (0) rfl (rfl) rfl ?_ | refine uI rfl (1) rfl (rfl) rfl ?_ | refine uI rfl (2) rfl (rfl) rfl ?_ | ((first | refine AOps.splitT rfl rfl rfl asm (fun h => ?_) | refine AOps.splitF rfl rfl rfl asm (fun h => ?_) | refine AOps.split rfl rfl rfl (fun h => ?_) (fun h => ?_)) <;> (fail_if_success (cases h; done)) <;> rw [h]))
        all_goals first | exact Wk.refl _ | exact wk_bad rfl rfl | exact wk_nil2
      · rw [g1] at h1; rw [g2] at h2
        have hp := cput_calls (q) [.mk 8 []]
        rw [encCR_ok'] at hp
        rw [show cWorld 88 ([.mk V ws]) (.mk T us :: .mk 5 vs :: .mk 7 qs :: q) = cOk (.mk 8 [] :: q) from by simp [cWorld, tyT, tyArg, tyArgs, List.getD_cons_zero, List.getD_cons_succ, cCode, g1, g2]]
        rw [encCR_ok']
        refine QCalls.of Tryd.func40 rfl (fun args w => Tryd.call40 args w) (Nat.le_of_ble_eq_true rfl) [(0, .c (.int .i64 88)), (1, .c (.sl 2 (encTys ([.mk V ws])))), (2, .c (.sl 2 (encTys (.mk T us :: .mk 5 vs :: .mk 7 qs :: q))))] rfl fun β hβ => ?_; have hf := Tryd.func40
        repeat' (first | refine st ?_ | (refine AK.condS rfl (fun h => ?_) (fun h => ?_) <;> first | (cases h; done) | rw [h] | skip) | refine uW hf rfl rfl ?_ | refine uC rfl hk ?_ | refine uC rfl h1 ?_ | refine uC rfl h2 ?_ | refine uC rfl hp ?_ | refine uC rfl (one0_calls 8) ?_ | refine uI rfl (0) rfl (rfl) rfl ?_ | refine uI rfl (1) rfl (rfl) rfl ?_ | refine uI rfl (2) rfl (rfl) rfl ?_ | ((first | refine AOps.splitT rfl rfl rfl asm (fun h => ?_) | refine AOps.splitF rfl rfl rfl asm (fun h => ?_) | refine AOps.split rfl rfl rfl (fun h => ?_) (fun h => ?_)) <;> (fail_if_success (cases h; done)) <;> rw [h]))
        all_goals first | exact Wk.refl _ | exact wk_bad rfl rfl | exact wk_nil2
    · have hT2 : U = 5 → ¬ W = 7 := fun a b => hU ⟨a, b⟩
      have hk := ckinds_calls (.mk T us :: .mk U vs :: .mk W qs :: q) [0, 5, 7]
      rw [show kOk (.mk T us :: .mk U vs :: .mk W qs :: q) [0, 5, 7] = false from by (simp [kOk_c, kOk_n, kOk_end, hT2]) <;> assumption] at hk
      have hT3 : ¬ (U = 5 ∧ W = 7 ∧ tySame (.mk T us) (.mk V ws) = true ∧ tStore (.mk T us) = true) := fun h => hU ⟨h.1, h.2.1⟩
      rw [show cWorld 88 ([.mk V ws]) (.mk T us :: .mk U vs :: .mk W qs :: q) = cBad 5 from by unfold cWorld; rw [if_neg (by decide), if_neg (by decide)]; dsimp only; rw [if_neg (by decide), if_neg (by decide), if_neg (by decide), if_neg (by decide), if_pos rfl]; exact if_neg hT3, encCR_bad (by decide)]
      refine QCalls.of Tryd.func40 rfl (fun args w => Tryd.call40 args w) (Nat.le_of_ble_eq_true rfl) [(0, .c (.int .i64 88)), (1, .c (.sl 2 (encTys ([.mk V ws])))), (2, .c (.sl 2 (encTys (.mk T us :: .mk U vs :: .mk W qs :: q))))] rfl fun β hβ => ?_; have hf := Tryd.func40
      repeat' (first | refine st ?_ | (refine AK.condS rfl (fun h => ?_) (fun h => ?_) <;> first | (cases h; done) | rw [h] | skip) | refine uW hf rfl rfl ?_ | refine uC rfl hk ?_ | refine uI rfl (0) rfl (rfl) rfl ?_ | refine uI rfl (1) rfl (rfl) rfl ?_ | refine uI rfl (2) rfl (rfl) rfl ?_ | ((first | refine AOps.splitT rfl rfl rfl asm (fun h => ?_) | refine AOps.splitF rfl rfl rfl asm (fun h => ?_) | refine AOps.split rfl rfl rfl (fun h => ?_) (fun h => ?_)) <;> (fail_if_success (cases h; done)) <;> rw [h]))
      all_goals first | exact Wk.refl _ | exact wk_bad rfl rfl
  · obtain ⟨rfl, rfl⟩ := cFits_nil hf rfl
    clear hf
    have hp := cput_calls (s) [.mk 7 []]
    rw [encCR_ok'] at hp
    rw [show cWorld 89 ([]) (s) = cOk (.mk 7 [] :: s) from by simp [cWorld, tyT, tyArg, tyArgs, List.getD_cons_zero, List.getD_cons_succ, cCode]]
    rw [encCR_ok']
    refine QCalls.of Tryd.func40 rfl (fun args w => Tryd.call40 args w) (Nat.le_of_ble_eq_true rfl) [(0, .c (.int .i64 89)), (1, .c (.sl 2 (encTys ([])))), (2, .c (.sl 2 (encTys (s))))] rfl fun β hβ => ?_; have hf := Tryd.func40
    repeat' (first | refine st ?_ | (refine AK.condS rfl (fun h => ?_) (fun h => ?_) <;> first | (cases h; done) | rw [h] | skip) | refine uW hf rfl rfl ?_ | refine uC rfl hp ?_ | refine uC rfl (one0_calls 7) ?_ | refine uI rfl (0) rfl (rfl) rfl ?_ | refine uI rfl (1) rfl (rfl) rfl ?_ | refine uI rfl (2) rfl (rfl) rfl ?_ | ((first | refine AOps.splitT rfl rfl rfl asm (fun h => ?_) | refine AOps.splitF rfl rfl rfl asm (fun h => ?_) | refine AOps.split rfl rfl rfl (fun h => ?_) (fun h => ?_)) <;> (fail_if_success (cases h; done)) <;> rw [h]))
    all_goals first | exact Wk.refl _ | exact wk_bad rfl rfl | exact wk_nil2
  · obtain ⟨rfl, rfl⟩ := cFits_nil hf rfl
    clear hf
    have hp := cput_calls (s) [.mk 7 []]
    rw [encCR_ok'] at hp
    rw [show cWorld 90 ([]) (s) = cOk (.mk 7 [] :: s) from by simp [cWorld, tyT, tyArg, tyArgs, List.getD_cons_zero, List.getD_cons_succ, cCode]]
    rw [encCR_ok']
    refine QCalls.of Tryd.func40 rfl (fun args w => Tryd.call40 args w) (Nat.le_of_ble_eq_true rfl) [(0, .c (.int .i64 90)), (1, .c (.sl 2 (encTys ([])))), (2, .c (.sl 2 (encTys (s))))] rfl fun β hβ => ?_; have hf := Tryd.func40
    repeat' (first | refine st ?_ | (refine AK.condS rfl (fun h => ?_) (fun h => ?_) <;> first | (cases h; done) | rw [h] | skip) | refine uW hf rfl rfl ?_ | refine uC rfl hp ?_ | refine uC rfl (one0_calls 7) ?_ | refine uI rfl (0) rfl (rfl) rfl ?_ | refine uI rfl (1) rfl (rfl) rfl ?_ | refine uI rfl (2) rfl (rfl) rfl ?_ | ((first | refine AOps.splitT rfl rfl rfl asm (fun h => ?_) | refine AOps.splitF rfl rfl rfl asm (fun h => ?_) | refine AOps.split rfl rfl rfl (fun h => ?_) (fun h => ?_)) <;> (fail_if_success (cases h; done)) <;> rw [h]))
    all_goals first | exact Wk.refl _ | exact wk_bad rfl rfl | exact wk_nil2
  · obtain ⟨rfl, rfl⟩ := cFits_nil hf rfl
    clear hf
    have hp := cput_calls (s) [.mk 5 []]
    rw [encCR_ok'] at hp
    rw [show cWorld 91 ([]) (s) = cOk (.mk 5 [] :: s) from by simp [cWorld, tyT, tyArg, tyArgs, List.getD_cons_zero, List.getD_cons_succ, cCode]]
    rw [encCR_ok']
    refine QCalls.of Tryd.func40 rfl (fun args w => Tryd.call40 args w) (Nat.le_of_ble_eq_true rfl) [(0, .c (.int .i64 91)), (1, .c (.sl 2 (encTys ([])))), (2, .c (.sl 2 (encTys (s))))] rfl fun β hβ => ?_; have hf := Tryd.func40
    repeat' (first | refine st ?_ | (refine AK.condS rfl (fun h => ?_) (fun h => ?_) <;> first | (cases h; done) | rw [h] | skip) | refine uW hf rfl rfl ?_ | refine uC rfl hp ?_ | refine uC rfl (one0_calls 5) ?_ | refine uI rfl (0) rfl (rfl) rfl ?_ | refine uI rfl (1) rfl (rfl) rfl ?_ | refine uI rfl (2) rfl (rfl) rfl ?_ | ((first | refine AOps.splitT rfl rfl rfl asm (fun h => ?_) | refine AOps.splitF rfl rfl rfl asm (fun h => ?_) | refine AOps.split rfl rfl rfl (fun h => ?_) (fun h => ?_)) <;> (fail_if_success (cases h; done)) <;> rw [h]))
    all_goals first | exact Wk.refl _ | exact wk_bad rfl rfl | exact wk_nil2
  · obtain ⟨rfl, rfl⟩ := cFits_nil hf rfl
    clear hf
    have hp := cput_calls (s) [.mk 5 []]
    rw [encCR_ok'] at hp
    rw [show cWorld 92 ([]) (s) = cOk (.mk 5 [] :: s) from by simp [cWorld, tyT, tyArg, tyArgs, List.getD_cons_zero, List.getD_cons_succ, cCode]]
    rw [encCR_ok']
    refine QCalls.of Tryd.func40 rfl (fun args w => Tryd.call40 args w) (Nat.le_of_ble_eq_true rfl) [(0, .c (.int .i64 92)), (1, .c (.sl 2 (encTys ([])))), (2, .c (.sl 2 (encTys (s))))] rfl fun β hβ => ?_; have hf := Tryd.func40
    repeat' (first | refine st ?_ | (refine AK.condS rfl (fun h => ?_) (fun h => ?_) <;> first | (cases h; done) | rw [h] | skip) | refine uW hf rfl rfl ?_ | refine uC rfl hp ?_ | refine uC rfl (one0_calls 5) ?_ | refine uI rfl (0) rfl (rfl) rfl ?_ | refine uI rfl (1) rfl (rfl) rfl ?_ | refine uI rfl (2) rfl (rfl) rfl ?_ | ((first | refine AOps.splitT rfl rfl rfl asm (fun h => ?_) | refine AOps.splitF rfl rfl rfl asm (fun h => ?_) | refine AOps.split rfl rfl rfl (fun h => ?_) (fun h => ?_)) <;> (fail_if_success (cases h; done)) <;> rw [h]))
    all_goals first | exact Wk.refl _ | exact wk_bad rfl rfl | exact wk_nil2
end Go.Proofs
