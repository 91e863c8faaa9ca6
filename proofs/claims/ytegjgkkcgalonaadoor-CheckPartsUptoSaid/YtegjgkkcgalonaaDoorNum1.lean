/- What shaping of package check answers. What items of package check answers. What control of package check answers. Texts compared, and what sign, plain, address, Size, Same and the library's searches over values answer. What the functions In, Abs, bound, Add, Sub and Ediv of package num answer, for all numbers. -/
import Derived.Test.YtegjgkkcgalonaaDoorChkQ
import Derived.Test.YtegjgkkcgalonaaDoorKind9
import Derived.Laws.Externs
import Derived.Lib.Bytealg
import Derived.Test.YtegjgkkcgalonaaDoorCtx
-- WK
set_option linter.unusedVariables false
set_option linter.unusedSimpArgs false
namespace Go.Proofs
open Go.Abs
attribute [local irreducible] AK AOps QCalls ECalls tParse tComp tCopy tPack tStore tGood cRow cStep cCodes nMints tPar

set_option maxHeartbeats 0 in
theorem cshaping_calls (P nN : Int) (nS : List UInt8) (args : List Nd) (types s : List Ty) (hP : 46 ≤ P ∧ P ≤ 58) (hf : cFits P args = some types) (hs : sOk s) (hl : s.length ≤ 9999999990) (hsz : ndsSize args ≤ 8589934593)
    (hrow : ∀ a ∈ args, ∀ s' : List Ty, sOk s' → s'.length ≤ s.length + 1 → QCalls Tryd.prog Tryd.X 12 [.sl 5 (encNds (ndArgs a)), .sl 2 (encTys s')] (encCX (cRow (ndArgs a) (s', false)))) :
    QCalls Tryd.prog Tryd.X 35 [encNd (.mk 2 nN P nS args), .sl 2 (encTys types), .sl 2 (encTys s)] (encCR (cShaping P (cCodes args) types s)) := by
  have hP2 : P = 46 ∨ P = 47 ∨ P = 48 ∨ P = 49 ∨ P = 50 ∨ P = 51 ∨ P = 52 ∨ P = 53 ∨ P = 54 ∨ P = 55 ∨ P = 56 ∨ P = 57 ∨ P = 58 := by omega
  clear hP
  rcases hP2 with rfl | rfl | rfl | rfl | rfl | rfl | rfl | rfl | rfl | rfl | rfl | rfl | rfl
  · obtain ⟨rfl, rfl⟩ := cFits_nil hf rfl
    clear hf
    rcases s with _ | ⟨⟨T, us⟩, _ | ⟨⟨U, vs⟩, q⟩⟩
    · skip
      rw [show cShaping 46 (cCodes ([])) ([]) ([]) = cBad 5 from by simp [cShaping, tyT, tyArg, tyArgs, List.getD_cons_zero, List.getD_cons_succ, cCode]]
      rw [encCR_bad (by decide)]
      refine QCalls.of Tryd.func35 rfl (fun args w => Tryd.call35 args w) (Nat.le_of_ble_eq_true rfl) [(0, .c (encNd (.mk 2 nN 46 nS ([])))), (1, .c (.sl 2 (encTys ([])))), (2, .c (.sl 2 (encTys ([]))))] rfl fun β hβ => ?_; have hf := Tryd.func35
      repeat' (first | refine st ?_ | (refine AK.condS rfl (fun h => ?_) (fun h => ?_) <;> first | (cases h; done) | rw [h] | skip) | refine uW hf rfl rfl ?_ | refine uI rfl (0) rfl (rfl) rfl ?_ | refine uI rfl (1) rfl (rfl) rfl ?_ | refine uI rfl (2) rfl (rfl) rfl ?_ | (refine uA rfl ?_ ?_ <;> (try (show (_ : Nat) * _ ≤ _; dsimp only))) | ((first | refine AOps.splitT rfl rfl rfl asm (fun h => ?_) | refine AOps.splitF rfl rfl rfl asm (fun h => ?_) | refine AOps.split rfl rfl rfl (fun h => ?_) (fun h => ?_)) <;> (fail_if_success (cases h; done)) <;> rw [h]))
      all_goals first | exact Wk.refl _ | exact wk_bad rfl rfl | exact wk_nil2
    · skip
      rw [show cShaping 46 (cCodes ([])) ([]) ([.mk T us]) = cBad 5 from by simp [cShaping, tyT, tyArg, tyArgs, List.getD_cons_zero, List.getD_cons_succ, cCode]]
      rw [encCR_bad (by decide)]
      refine QCalls.of Tryd.func35 rfl (fun args w => Tryd.call35 args w) (Nat.le_of_ble_eq_true rfl) [(0, .c (encNd (.mk 2 nN 46 nS ([])))), (1, .c (.sl 2 (encTys ([])))), (2, .c (.sl 2 (encTys ([.mk T us]))))] rfl fun β hβ => ?_; have hf := Tryd.func35
      repeat' (first | refine st ?_ | (refine AK.condS rfl (fun h => ?_) (fun h => ?_) <;> first | (cases h; done) | rw [h] | skip) | refine uW hf rfl rfl ?_ | refine uI rfl (0) rfl (rfl) rfl ?_ | refine uI rfl (1) rfl (rfl) rfl ?_ | refine uI rfl (2) rfl (rfl) rfl ?_ | (refine uA rfl ?_ ?_ <;> (try (show (_ : Nat) * _ ≤ _; dsimp only))) | ((first | refine AOps.splitT rfl rfl rfl asm (fun h => ?_) | refine AOps.splitF rfl rfl rfl asm (fun h => ?_) | refine AOps.split rfl rfl rfl (fun h => ?_) (fun h => ?_)) <;> (fail_if_success (cases h; done)) <;> rw [h]))
      all_goals first | exact Wk.refl _ | exact wk_bad rfl rfl | exact wk_nil2
    · skip
      have el1 := len_gt (encTys (.mk T us :: .mk U vs :: q)) 1 (by simp only [encTys, List.length_cons]; omega)
      have hp := cput_calls (q) [.mk 11 [.mk T us, .mk U vs]]
      rw [encCR_ok'] at hp
      rw [show cShaping 46 (cCodes ([])) ([]) (.mk T us :: .mk U vs :: q) = cOk (.mk 11 [.mk T us, .mk U vs] :: q) from by simp [cShaping, tyT, tyArg, tyArgs, List.getD_cons_zero, List.getD_cons_succ, cCode]]
      rw [encCR_ok']
      refine QCalls.of Tryd.func35 rfl (fun args w => Tryd.call35 args w) (Nat.le_of_ble_eq_true rfl) [(0, .c (encNd (.mk 2 nN 46 nS ([])))), (1, .c (.sl 2 (encTys ([])))), (2, .c (.sl 2 (encTys (.mk T us :: .mk U vs :: q))))] rfl fun β hβ => ?_; have hf := Tryd.func35
      repeat' (first | refine st ?_ | (refine AK.condS rfl (fun h => ?_) (fun h => ?_) <;> first | (cases h; done) | rw [h] | skip) | refine uW hf rfl rfl ?_ | refine uC rfl hp ?_ | refine uC rfl (one_calls 11 [.mk T us, .mk U vs]) ?_ | refine uI rfl (0) rfl (rfl) rfl ?_ | refine uI rfl (1) rfl (rfl) rfl ?_ | refine uI rfl (2) rfl (rfl) rfl ?_ | (refine uA rfl ?_ ?_ <;> (try (show (_ : Nat) * _ ≤ _; dsimp only))) | ((first | refine AOps.splitT rfl rfl rfl asm (fun h => ?_) | refine AOps.splitF rfl rfl rfl asm (fun h => ?_) | refine AOps.split rfl rfl rfl (fun h => ?_) (fun h => ?_)) <;> (fail_if_success (cases h; done)) <;> rw [h]))
      all_goals first | exact Wk.refl _ | exact wk_bad rfl rfl | exact wk_nil2
  · obtain ⟨rfl, rfl⟩ := cFits_nil hf rfl
    clear hf
    rcases s with _ | ⟨⟨T, us⟩, r⟩
    · skip
      rw [show cShaping 47 (cCodes ([])) ([]) ([]) = cBad 5 from by simp [cShaping, tyT, tyArg, tyArgs, List.getD_cons_zero, List.getD_cons_succ, cCode]]
      rw [encCR_bad (by decide)]
      refine QCalls.of Tryd.func35 rfl (fun args w => Tryd.call35 args w) (Nat.le_of_ble_eq_true rfl) [(0, .c (encNd (.mk 2 nN 47 nS ([])))), (1, .c (.sl 2 (encTys ([])))), (2, .c (.sl 2 (encTys ([]))))] rfl fun β hβ => ?_; have hf := Tryd.func35
      repeat' (first | refine st ?_ | (refine AK.condS rfl (fun h => ?_) (fun h => ?_) <;> first | (cases h; done) | rw [h] | skip) | refine uW hf rfl rfl ?_ | refine uI rfl (0) rfl (rfl) rfl ?_ | refine uI rfl (1) rfl (rfl) rfl ?_ | refine uI rfl (2) rfl (rfl) rfl ?_ | (refine uA rfl ?_ ?_ <;> (try (show (_ : Nat) * _ ≤ _; dsimp only))) | ((first | refine AOps.splitT rfl rfl rfl asm (fun h => ?_) | refine AOps.splitF rfl rfl rfl asm (fun h => ?_) | refine AOps.split rfl rfl rfl (fun h => ?_) (fun h => ?_)) <;> (fail_if_success (cases h; done)) <;> rw [h]))
      all_goals first | exact Wk.refl _ | exact wk_bad rfl rfl | exact wk_nil2
    by_cases hT : T = 11
    · subst hT
      obtain ⟨⟨X, zs⟩, ⟨Y, ys⟩, rfl, hx, hy⟩ := tyOk_two (hs (.mk 11 us) (by simp)) rfl
      have hk := ckinds_calls (.mk 11 [.mk X zs, .mk Y ys] :: r) [11]
      rw [show kOk (.mk 11 [.mk X zs, .mk Y ys] :: r) [11] = true from by (simp [kOk_c, kOk_n, kOk_end]) <;> assumption] at hk
      have hp := cput_calls (r) [.mk X zs, .mk Y ys]
      rw [encCR_ok'] at hp
      rw [show cShaping 47 (cCodes ([])) ([]) (.mk 11 [.mk X zs, .mk Y ys] :: r) = cOk (.mk X zs :: .mk Y ys :: r) from by simp [cShaping, tyT, tyArg, tyArgs, List.getD_cons_zero, List.getD_cons_succ, cCode]]
      rw [encCR_ok']
      refine QCalls.of Tryd.func35 rfl (fun args w => Tryd.call35 args w) (Nat.le_of_ble_eq_true rfl) [(0, .c (encNd (.mk 2 nN 47 nS ([])))), (1, .c (.sl 2 (encTys ([])))), (2, .c (.sl 2 (encTys (.mk 11 [.mk X zs, .mk Y ys] :: r))))] rfl fun β hβ => ?_; have hf := Tryd.func35
      repeat' (first | refine st ?_ | (refine AK.condS rfl (fun h => ?_) (fun h => ?_) <;> first | (cases h; done) | rw [h] | skip) | refine uW hf rfl rfl ?_ | refine uC rfl hk ?_ | refine uC rfl hp ?_ | refine uI rfl (0) rfl (rfl) rfl ?_ | refine uI rfl (1) rfl (rfl) rfl ?_ | refine uI rfl (2) rfl (rfl) rfl ?_ | (refine uA rfl ?_ ?_ <;> (try (show (_ : Nat) * _ ≤ _; dsimp only))) | ((first | refine AOps.splitT rfl rfl rfl asm (fun h => ?_) | refine AOps.splitF rfl rfl rfl asm (fun h => ?_) | refine AOps.split rfl rfl rfl (fun h => ?_) (fun h => ?_)) <;> (fail_if_success (cases h; done)) <;> rw [h]))
      all_goals first | exact Wk.refl _ | exact wk_bad rfl rfl | exact wk_nil2
    · skip
      have hk := ckinds_calls (.mk T us :: r) [11]
      rw [show kOk (.mk T us :: r) [11] = false from by (simp [kOk_c, kOk_n, kOk_end, hT]) <;> assumption] at hk
      rw [show cShaping 47 (cCodes ([])) ([]) (.mk T us :: r) = cBad 5 from by simp [cShaping, tyT, tyArg, tyArgs, List.getD_cons_zero, List.getD_cons_succ, cCode, hT]]
      rw [encCR_bad (by decide)]
      refine QCalls.of Tryd.func35 rfl (fun args w => Tryd.call35 args w) (Nat.le_of_ble_eq_true rfl) [(0, .c (encNd (.mk 2 nN 47 nS ([])))), (1, .c (.sl 2 (encTys ([])))), (2, .c (.sl 2 (encTys (.mk T us :: r))))] rfl fun β hβ => ?_; have hf := Tryd.func35
      repeat' (first | refine st ?_ | (refine AK.condS rfl (fun h => ?_) (fun h => ?_) <;> first | (cases h; done) | rw [h] | skip) | refine uW hf rfl rfl ?_ | refine uC rfl hk ?_ | refine uI rfl (0) rfl (rfl) rfl ?_ | refine uI rfl (1) rfl (rfl) rfl ?_ | refine uI rfl (2) rfl (rfl) rfl ?_ | (refine uA rfl ?_ ?_ <;> (try (show (_ : Nat) * _ ≤ _; dsimp only))) | ((first | refine AOps.splitT rfl rfl rfl asm (fun h => ?_) | refine AOps.splitF rfl rfl rfl asm (fun h => ?_) | refine AOps.split rfl rfl rfl (fun h => ?_) (fun h => ?_)) <;> (fail_if_success (cases h; done)) <;> rw [h]))
      all_goals first | exact Wk.refl _ | exact wk_bad rfl rfl | exact wk_nil2
  · obtain ⟨rfl, rfl⟩ := cFits_nil hf rfl
    clear hf
    rcases s with _ | ⟨⟨T, us⟩, r⟩
    · skip
      rw [show cShaping 48 (cCodes ([])) ([]) ([]) = cBad 5 from by simp [cShaping, tyT, tyArg, tyArgs, List.getD_cons_zero, List.getD_cons_succ, cCode]]
      rw [encCR_bad (by decide)]
      refine QCalls.of Tryd.func35 rfl (fun args w => Tryd.call35 args w) (Nat.le_of_ble_eq_true rfl) [(0, .c (encNd (.mk 2 nN 48 nS ([])))), (1, .c (.sl 2 (encTys ([])))), (2, .c (.sl 2 (encTys ([]))))] rfl fun β hβ => ?_; have hf := Tryd.func35
      repeat' (first | refine st ?_ | (refine AK.condS rfl (fun h => ?_) (fun h => ?_) <;> first | (cases h; done) | rw [h] | skip) | refine uW hf rfl rfl ?_ | refine uI rfl (0) rfl (rfl) rfl ?_ | refine uI rfl (1) rfl (rfl) rfl ?_ | refine uI rfl (2) rfl (rfl) rfl ?_ | (refine uA rfl ?_ ?_ <;> (try (show (_ : Nat) * _ ≤ _; dsimp only))) | ((first | refine AOps.splitT rfl rfl rfl asm (fun h => ?_) | refine AOps.splitF rfl rfl rfl asm (fun h => ?_) | refine AOps.split rfl rfl rfl (fun h => ?_) (fun h => ?_)) <;> (fail_if_success (cases h; done)) <;> rw [h]))
      all_goals first | exact Wk.refl _ | exact wk_bad rfl rfl | exact wk_nil2
    by_cases hT : T = 11
    · subst hT
      obtain ⟨⟨X, zs⟩, ⟨Y, ys⟩, rfl, hx, hy⟩ := tyOk_two (hs (.mk 11 us) (by simp)) rfl
      have hk := ckinds_calls (.mk 11 [.mk X zs, .mk Y ys] :: r) [11]
      rw [show kOk (.mk 11 [.mk X zs, .mk Y ys] :: r) [11] = true from by (simp [kOk_c, kOk_n, kOk_end]) <;> assumption] at hk
      have hp := cput_calls (r) [.mk X zs]
      rw [encCR_ok'] at hp
      rw [show cShaping 48 (cCodes ([])) ([]) (.mk 11 [.mk X zs, .mk Y ys] :: r) = cOk (.mk X zs :: r) from by simp [cShaping, tyT, tyArg, tyArgs, List.getD_cons_zero, List.getD_cons_succ, cCode]]
      rw [encCR_ok']
      refine QCalls.of Tryd.func35 rfl (fun args w => Tryd.call35 args w) (Nat.le_of_ble_eq_true rfl) [(0, .c (encNd (.mk 2 nN 48 nS ([])))), (1, .c (.sl 2 (encTys ([])))), (2, .c (.sl 2 (encTys (.mk 11 [.mk X zs, .mk Y ys] :: r))))] rfl fun β hβ => ?_; have hf := Tryd.func35
      repeat' (first | refine st ?_ | (refine AK.condS rfl (fun h => ?_) (fun h => ?_) <;> first | (cases h; done) | rw [h] | skip) | refine uW hf rfl rfl ?_ | refine uC rfl hk ?_ | refine uC rfl hp ?_ | refine uI rfl (0) rfl (rfl) rfl ?_ | refine uI rfl (1) rfl (rfl) rfl ?_ | refine uI rfl (2) rfl (rfl) rfl ?_ | (refine uA rfl ?_ ?_ <;> (try (show (_ : Nat) * _ ≤ _; dsimp only))) | ((first | refine AOps.splitT rfl rfl rfl asm (fun h => ?_) | refine AOps.splitF rfl rfl rfl asm (fun h => ?_) | refine AOps.split rfl rfl rfl (fun h => ?_) (fun h => ?_)) <;> (fail_if_success (cases h; done)) <;> rw [h]))
      all_goals first | exact Wk.refl _ | exact wk_bad rfl rfl | exact wk_nil2
    · skip
      have hk := ckinds_calls (.mk T us :: r) [11]
      rw [show kOk (.mk T us :: r) [11] = false from by (simp [kOk_c, kOk_n, kOk_end, hT]) <;> assumption] at hk
      rw [show cShaping 48 (cCodes ([])) ([]) (.mk T us :: r) = cBad 5 from by simp [cShaping, tyT, tyArg, tyArgs, List.getD_cons_zero, List.getD_cons_succ, cCode, hT]]
      rw [encCR_bad (by decide)]
      refine QCalls.of Tryd.func35 rfl (fun args w => Tryd.call35 args w) (Nat.le_of_ble_eq_true rfl) [(0, .c (encNd (.mk 2 nN 48 nS ([])))), (1, .c (.sl 2 (encTys ([])))), (2, .c (.sl 2 (encTys (.mk T us :: r))))] rfl fun β hβ => ?_; have hf := Tryd.func35
      repeat' (first | refine st ?_ | (refine AK.condS rfl (fun h => ?_) (fun h => ?_) <;> first | (cases h; done) | rw [h] | skip) | refine uW hf rfl rfl ?_ | refine uC rfl hk ?_ | refine uI rfl (0) rfl (rfl) rfl ?_ | refine uI rfl (1) rfl (rfl) rfl ?_ | refine uI rfl (2) rfl (rfl) rfl ?_ | (refine uA rfl ?_ ?_ <;> (try (show (_ : Nat) * _ ≤ _; dsimp only))) | ((first | refine AOps.splitT rfl rfl rfl asm (fun h => ?_) | refine AOps.splitF rfl rfl rfl asm (fun h => ?_) | refine AOps.split rfl rfl rfl (fun h => ?_) (fun h => ?_)) <;> (fail_if_success (cases h; done)) <;> rw [h]))
      all_goals first | exact Wk.refl _ | exact wk_bad rfl rfl | exact wk_nil2
  · obtain ⟨rfl, rfl⟩ := cFits_nil hf rfl
    clear hf
    rcases s with _ | ⟨⟨T, us⟩, r⟩
    · skip
      rw [show cShaping 49 (cCodes ([])) ([]) ([]) = cBad 5 from by simp [cShaping, tyT, tyArg, tyArgs, List.getD_cons_zero, List.getD_cons_succ, cCode]]
      rw [encCR_bad (by decide)]
      refine QCalls.of Tryd.func35 rfl (fun args w => Tryd.call35 args w) (Nat.le_of_ble_eq_true rfl) [(0, .c (encNd (.mk 2 nN 49 nS ([])))), (1, .c (.sl 2 (encTys ([])))), (2, .c (.sl 2 (encTys ([]))))] rfl fun β hβ => ?_; have hf := Tryd.func35
      repeat' (first | refine st ?_ | (refine AK.condS rfl (fun h => ?_) (fun h => ?_) <;> first | (cases h; done) | rw [h] | skip) | refine uW hf rfl rfl ?_ | refine uI rfl (0) rfl (rfl) rfl ?_ | refine uI rfl (1) rfl (rfl) rfl ?_ | refine uI rfl (2) rfl (rfl) rfl ?_ | (refine uA rfl ?_ ?_ <;> (try (show (_ : Nat) * _ ≤ _; dsimp only))) | ((first | refine AOps.splitT rfl rfl rfl asm (fun h => ?_) | refine AOps.splitF rfl rfl rfl asm (fun h => ?_) | refine AOps.split rfl rfl rfl (fun h => ?_) (fun h => ?_)) <;> (fail_if_success (cases h; done)) <;> rw [h]))
      all_goals first | exact Wk.refl _ | exact wk_bad rfl rfl | exact wk_nil2
    by_cases hT : T = 11
    · subst hT
      obtain ⟨⟨X, zs⟩, ⟨Y, ys⟩, rfl, hx, hy⟩ := tyOk_two (hs (.mk 11 us) (by simp)) rfl
      have hk := ckinds_calls (.mk 11 [.mk X zs, .mk Y ys] :: r) [11]
      rw [show kOk (.mk 11 [.mk X zs, .mk Y ys] :: r) [11] = true from by (simp [kOk_c, kOk_n, kOk_end]) <;> assumption] at hk
      have hp := cput_calls (r) [.mk Y ys]
      rw [encCR_ok'] at hp
      rw [show cShaping 49 (cCodes ([])) ([]) (.mk 11 [.mk X zs, .mk Y ys] :: r) = cOk (.mk Y ys :: r) from by simp [cShaping, tyT, tyArg, tyArgs, List.getD_cons_zero, List.getD_cons_succ, cCode]]
      rw [encCR_ok']
      refine QCalls.of Tryd.func35 rfl (fun args w => Tryd.call35 args w) (Nat.le_of_ble_eq_true rfl) [(0, .c (encNd (.mk 2 nN 49 nS ([])))), (1, .c (.sl 2 (encTys ([])))), (2, .c (.sl 2 (encTys (.mk 11 [.mk X zs, .mk Y ys] :: r))))] rfl fun β hβ => ?_; have hf := Tryd.func35
      repeat' (first | refine st ?_ | (refine AK.condS rfl (fun h => ?_) (fun h => ?_) <;> first | (cases h; done) | rw [h] | skip) | refine uW hf rfl rfl ?_ | refine uC rfl hk ?_ | refine uC rfl hp ?_ | refine uI rfl (0) rfl (rfl) rfl ?_ | refine uI rfl (1) rfl (rfl) rfl ?_ | refine uI rfl (2) rfl (rfl) rfl ?_ | (refine uA rfl ?_ ?_ <;> (try (show (_ : Nat) * _ ≤ _; dsimp only))) | ((first | refine AOps.splitT rfl rfl rfl asm (fun h => ?_) | refine AOps.splitF rfl rfl rfl asm (fun h => ?_) | refine AOps.split rfl rfl rfl (fun h => ?_) (fun h => ?_)) <;> (fail_if_success (cases h; done)) <;> rw [h]))
      all_goals first | exact Wk.refl _ | exact wk_bad rfl rfl | exact wk_nil2
    · skip
      have hk := ckinds_calls (.mk T us :: r) [11]
      rw [show kOk (.mk T us :: r) [11] = false from by (simp [kOk_c, kOk_n, kOk_end, hT]) <;> assumption] at hk
      rw [show cShaping 49 (cCodes ([])) ([]) (.mk T us :: r) = cBad 5 from by simp [cShaping, tyT, tyArg, tyArgs, List.getD_cons_zero, List.getD_cons_succ, cCode, hT]]
      rw [encCR_bad (by decide)]
      refine QCalls.of Tryd.func35 rfl (fun args w => Tryd.call35 args w) (Nat.le_of_ble_eq_true rfl) [(0, .c (encNd (.mk 2 nN 49 nS ([])))), (1, .c (.sl 2 (encTys ([])))), (2, .c (.sl 2 (encTys (.mk T us :: r))))] rfl fun β hβ => ?_; have hf := Tryd.func35
      repeat' (first | refine st ?_ | (refine AK.condS rfl (fun h => ?_) (fun h => ?_) <;> first | (cases h; done) | rw [h] | skip) | refine uW hf rfl rfl ?_ | refine uC rfl hk ?_ | refine uI rfl (0) rfl (rfl) rfl ?_ | refine uI rfl (1) rfl (rfl) rfl ?_ | refine uI rfl (2) rfl (rfl) rfl ?_ | (refine uA rfl ?_ ?_ <;> (try (show (_ : Nat) * _ ≤ _; dsimp only))) | ((first | refine AOps.splitT rfl rfl rfl asm (fun h => ?_) | refine AOps.splitF rfl rfl rfl asm (fun h => ?_) | refine AOps.split rfl rfl rfl (fun h => ?_) (fun h => ?_)) <;> (fail_if_success (cases h; done)) <;> rw [h]))
      all_goals first | exact Wk.refl _ | exact wk_bad rfl rfl | exact wk_nil2
  · obtain ⟨x0, t, rfl, rfl, ht⟩ := cFits_t hf rfl
    clear hf
    have ht2 := ht.2
    obtain ⟨V, ws⟩ := t
    rcases s with _ | ⟨⟨T, us⟩, r⟩
    · skip
      rw [show cShaping 50 (cCodes ([x0])) ([.mk V ws]) ([]) = cBad 5 from by simp [cShaping, tyT, tyArg, tyArgs, List.getD_cons_zero, List.getD_cons_succ, cCode]]
      rw [encCR_bad (by decide)]
      refine QCalls.of Tryd.func35 rfl (fun args w => Tryd.call35 args w) (Nat.le_of_ble_eq_true rfl) [(0, .c (encNd (.mk 2 nN 50 nS ([x0])))), (1, .c (.sl 2 (encTys ([.mk V ws])))), (2, .c (.sl 2 (encTys ([]))))] rfl fun β hβ => ?_; have hf := Tryd.func35
      repeat' (first | refine st ?_ | (refine AK.condS rfl (fun h => ?_) (fun h => ?_) <;> first | (cases h; done) | rw [h] | skip) | refine uW hf rfl rfl ?_ | refine uI rfl (0) rfl (rfl) rfl ?_ | refine uI rfl (1) rfl (rfl) rfl ?_ | refine uI rfl (2) rfl (rfl) rfl ?_ | (refine uA rfl ?_ ?_ <;> (try (show (_ : Nat) * _ ≤ _; dsimp only))) | ((first | refine AOps.splitT rfl rfl rfl asm (fun h => ?_) | refine AOps.splitF rfl rfl rfl asm (fun h => ?_) | refine AOps.split rfl rfl rfl (fun h => ?_) (fun h => ?_)) <;> (fail_if_success (cases h; done)) <;> rw [h]))
      all_goals first | exact Wk.refl _ | exact wk_bad rfl rfl | exact wk_nil2
    · skip
      have hp := cput_calls (r) [.mk 12 [.mk T us, .mk V ws]]
      rw [encCR_ok'] at hp
      rw [show cShaping 50 (cCodes ([x0])) ([.mk V ws]) (.mk T us :: r) = cOk (.mk 12 [.mk T us, .mk V ws] :: r) from by simp [cShaping, tyT, tyArg, tyArgs, List.getD_cons_zero, List.getD_cons_succ, cCode]]
      rw [encCR_ok']
      refine QCalls.of Tryd.func35 rfl (fun args w => Tryd.call35 args w) (Nat.le_of_ble_eq_true rfl) [(0, .c (encNd (.mk 2 nN 50 nS ([x0])))), (1, .c (.sl 2 (encTys ([.mk V ws])))), (2, .c (.sl 2 (encTys (.mk T us :: r))))] rfl fun β hβ => ?_; have hf := Tryd.func35
      repeat' (first | refine st ?_ | (refine AK.condS rfl (fun h => ?_) (fun h => ?_) <;> first | (cases h; done) | rw [h] | skip) | refine uW hf rfl rfl ?_ | refine uC rfl hp ?_ | refine uC rfl (one_calls 12 [.mk T us, .mk V ws]) ?_ | refine uI rfl (0) rfl (rfl) rfl ?_ | refine uI rfl (1) rfl (rfl) rfl ?_ | refine uI rfl (2) rfl (rfl) rfl ?_ | (refine uA rfl ?_ ?_ <;> (try (show (_ : Nat) * _ ≤ _; dsimp only))) | ((first | refine AOps.splitT rfl rfl rfl asm (fun h => ?_) | refine AOps.splitF rfl rfl rfl asm (fun h => ?_) | refine AOps.split rfl rfl rfl (fun h => ?_) (fun h => ?_)) <;> (fail_if_success (cases h; done)) <;> rw [h]))
      all_goals first | exact Wk.refl _ | exact wk_bad rfl rfl | exact wk_nil2
  · obtain ⟨x0, t, rfl, rfl, ht⟩ := cFits_t hf rfl
    clear hf
    have ht2 := ht.2
    obtain ⟨V, ws⟩ := t
    rcases s with _ | ⟨⟨T, us⟩, r⟩
    · skip
      rw [show cShaping 51 (cCodes ([x0])) ([.mk V ws]) ([]) = cBad 5 from by simp [cShaping, tyT, tyArg, tyArgs, List.getD_cons_zero, List.getD_cons_succ, cCode]]
      rw [encCR_bad (by decide)]
      refine QCalls.of Tryd.func35 rfl (fun args w => Tryd.call35 args w) (Nat.le_of_ble_eq_true rfl) [(0, .c (encNd (.mk 2 nN 51 nS ([x0])))), (1, .c (.sl 2 (encTys ([.mk V ws])))), (2, .c (.sl 2 (encTys ([]))))] rfl fun β hβ => ?_; have hf := Tryd.func35
      repeat' (first | refine st ?_ | (refine AK.condS rfl (fun h => ?_) (fun h => ?_) <;> first | (cases h; done) | rw [h] | skip) | refine uW hf rfl rfl ?_ | refine uI rfl (0) rfl (rfl) rfl ?_ | refine uI rfl (1) rfl (rfl) rfl ?_ | refine uI rfl (2) rfl (rfl) rfl ?_ | (refine uA rfl ?_ ?_ <;> (try (show (_ : Nat) * _ ≤ _; dsimp only))) | ((first | refine AOps.splitT rfl rfl rfl asm (fun h => ?_) | refine AOps.splitF rfl rfl rfl asm (fun h => ?_) | refine AOps.split rfl rfl rfl (fun h => ?_) (fun h => ?_)) <;> (fail_if_success (cases h; done)) <;> rw [h]))
      all_goals first | exact Wk.refl _ | exact wk_bad rfl rfl | exact wk_nil2
    · skip
      have hp := cput_calls (r) [.mk 12 [.mk V ws, .mk T us]]
      rw [encCR_ok'] at hp
      rw [show cShaping 51 (cCodes ([x0])) ([.mk V ws]) (.mk T us :: r) = cOk (.mk 12 [.mk V ws, .mk T us] :: r) from by simp [cShaping, tyT, tyArg, tyArgs, List.getD_cons_zero, List.getD_cons_succ, cCode]]
      rw [encCR_ok']
      refine QCalls.of Tryd.func35 rfl (fun args w => Tryd.call35 args w) (Nat.le_of_ble_eq_true rfl) [(0, .c (encNd (.mk 2 nN 51 nS ([x0])))), (1, .c (.sl 2 (encTys ([.mk V ws])))), (2, .c (.sl 2 (encTys (.mk T us :: r))))] rfl fun β hβ => ?_; have hf := Tryd.func35
      repeat' (first | refine st ?_ | (refine AK.condS rfl (fun h => ?_) (fun h => ?_) <;> first | (cases h; done) | rw [h] | skip) | refine uW hf rfl rfl ?_ | refine uC rfl hp ?_ | refine uC rfl (one_calls 12 [.mk V ws, .mk T us]) ?_ | refine uI rfl (0) rfl (rfl) rfl ?_ | refine uI rfl (1) rfl (rfl) rfl ?_ | refine uI rfl (2) rfl (rfl) rfl ?_ | (refine uA rfl ?_ ?_ <;> (try (show (_ : Nat) * _ ≤ _; dsimp only))) | ((first | refine AOps.splitT rfl rfl rfl asm (fun h => ?_) | refine AOps.splitF rfl rfl rfl asm (fun h => ?_) | refine AOps.split rfl rfl rfl (fun h => ?_) (fun h => ?_)) <;> (fail_if_success (cases h; done)) <;> rw [h]))
      all_goals first | exact Wk.refl _ | exact wk_bad rfl rfl | exact wk_nil2
  · obtain ⟨n1, p1, S1, xs, n2, p2, S2, ys, rfl, rfl⟩ := cFits_cc hf rfl
    clear hf
    rcases s with _ | ⟨⟨T, us⟩, r⟩
    · skip
      rw [show cShaping 52 (cCodes ([.mk 3 n1 p1 S1 xs, .mk 3 n2 p2 S2 ys])) ([]) ([]) = cBad 5 from by simp [cShaping, tyT, tyArg, tyArgs, List.getD_cons_zero, List.getD_cons_succ, cCode]]
      rw [encCR_bad (by decide)]
      refine QCalls.of Tryd.func35 rfl (fun args w => Tryd.call35 args w) (Nat.le_of_ble_eq_true rfl) [(0, .c (encNd (.mk 2 nN 52 nS ([.mk 3 n1 p1 S1 xs, .mk 3 n2 p2 S2 ys])))), (1, .c (.sl 2 (encTys ([])))), (2, .c (.sl 2 (encTys ([]))))] rfl fun β hβ => ?_; have hf := Tryd.func35
      repeat' (first | refine st ?_ | (refine AK.condS rfl (fun h => ?_) (fun h => ?_) <;> first | (cases h; done) | rw [h] | skip) | refine uW hf rfl rfl ?_ | refine uI rfl (0) rfl (rfl) rfl ?_ | refine uI rfl (1) rfl (rfl) rfl ?_ | refine uI rfl (2) rfl (rfl) rfl ?_ | (refine uA rfl ?_ ?_ <;> (try (show (_ : Nat) * _ ≤ _; dsimp only))) | ((first | refine AOps.splitT rfl rfl rfl asm (fun h => ?_) | refine AOps.splitF rfl rfl rfl asm (fun h => ?_) | refine AOps.split rfl rfl rfl (fun h => ?_) (fun h => ?_)) <;> (fail_if_success (cases h; done)) <;> rw [h]))
      all_goals first | exact Wk.refl _ | exact wk_bad rfl rfl | exact wk_nil2
    by_cases hT : T = 12
    · subst hT
      simp only [List.length_cons] at hl
      have zr := encTys_length r
      have hs2 := (sOk_cons hs).2
      obtain ⟨⟨X, zs⟩, ⟨Y, qs⟩, rfl, hx, hy⟩ := tyOk_two (hs (.mk 12 us) (by simp)) rfl
      have hk := ckinds_calls (.mk 12 [.mk X zs, .mk Y qs] :: r) [12]
      rw [show kOk (.mk 12 [.mk X zs, .mk Y qs] :: r) [12] = true from by (simp [kOk_c, kOk_n, kOk_end]) <;> assumption] at hk
      have w1 := hrow (.mk 3 n1 p1 S1 xs) (by simp) (.mk X zs :: r) (sOk_put hx hs2) (by simp only [List.length_cons]; omega)
      have o1 := cRow_ok xs (.mk X zs :: r, false) (sOk_put hx hs2)
      have w2 := hrow (.mk 3 n2 p2 S2 ys) (by simp) (.mk Y qs :: r) (sOk_put hy hs2) (by simp only [List.length_cons]; omega)
      have o2 := cRow_ok ys (.mk Y qs :: r, false) (sOk_put hy hs2)
      rw [show cShaping 52 (cCodes ([.mk 3 n1 p1 S1 xs, .mk 3 n2 p2 S2 ys])) ([]) (.mk 12 [.mk X zs, .mk Y qs] :: r) = cMerge (cRow xs (.mk X zs :: r, false)) (cRow ys (.mk Y qs :: r, false)) from by simp [cShaping, tyT, tyArg, tyArgs, List.getD_cons_zero, List.getD_cons_succ, cCode, cCodes]]
      simp only [ndArgs] at w1
      generalize cRow xs (.mk X zs :: r, false) = r1 at w1 o1 ⊢
      obtain ⟨⟨t1, b1⟩, e1⟩ := r1
      simp only [List.length_cons] at o1
      simp only [ndArgs] at w2
      generalize cRow ys (.mk Y qs :: r, false) = r2 at w2 o2 ⊢
      obtain ⟨⟨t2, b2⟩, e2⟩ := r2
      simp only [List.length_cons] at o2
      have hm := cmerge_calls ((t1, b1), e1) ((t2, b2), e2) o1.1 (by simp only; omega)
      generalize cMerge ((t1, b1), e1) ((t2, b2), e2) = rm at hm ⊢
      obtain ⟨⟨tm, bm⟩, em⟩ := rm
      refine QCalls.of Tryd.func35 rfl (fun args w => Tryd.call35 args w) (Nat.le_of_ble_eq_true rfl) [(0, .c (encNd (.mk 2 nN 52 nS ([.mk 3 n1 p1 S1 xs, .mk 3 n2 p2 S2 ys])))), (1, .c (.sl 2 (encTys ([])))), (2, .c (.sl 2 (encTys (.mk 12 [.mk X zs, .mk Y qs] :: r))))] rfl fun β hβ => ?_; have hf := Tryd.func35
      repeat' (first | refine st ?_ | (refine AK.condS rfl (fun h => ?_) (fun h => ?_) <;> first | (cases h; done) | rw [h] | skip) | refine uW hf rfl rfl ?_ | refine uC rfl hk ?_ | refine uC rfl w1 ?_ | refine uC rfl w2 ?_ | refine uC rfl hm ?_ | refine uI rfl (0) rfl (rfl) rfl ?_ | refine uI rfl (1) rfl (rfl) rfl ?_ | refine uI rfl (2) rfl (rfl) rfl ?_ | (refine uA rfl ?_ ?_ <;> (try (show (_ : Nat) * _ ≤ _; dsimp only))) | ((first | refine AOps.splitT rfl rfl rfl asm (fun h => ?_) | refine AOps.splitF rfl rfl rfl asm (fun h => ?_) | refine AOps.split rfl rfl rfl (fun h => ?_) (fun h => ?_)) <;> (fail_if_success (cases h; done)) <;> rw [h]))
      all_goals first | exact Wk.refl _ | exact wk_bad rfl rfl | exact wk_X | (show _ ≤ _; simp only [encTys, List.length_cons, List.length_nil]; omega)
    · skip
      have hk := ckinds_calls (.mk T us :: r) [12]
      rw [show kOk (.mk T us :: r) [12] = false from by (simp [kOk_c, kOk_n, kOk_end, hT]) <;> assumption] at hk
      rw [show cShaping 52 (cCodes ([.mk 3 n1 p1 S1 xs, .mk 3 n2 p2 S2 ys])) ([]) (.mk T us :: r) = cBad 5 from by simp [cShaping, tyT, tyArg, tyArgs, List.getD_cons_zero, List.getD_cons_succ, cCode, hT]]
      rw [encCR_bad (by decide)]
      refine QCalls.of Tryd.func35 rfl (fun args w => Tryd.call35 args w) (Nat.le_of_ble_eq_true rfl) [(0, .c (encNd (.mk 2 nN 52 nS ([.mk 3 n1 p1 S1 xs, .mk 3 n2 p2 S2 ys])))), (1, .c (.sl 2 (encTys ([])))), (2, .c (.sl 2 (encTys (.mk T us :: r))))] rfl fun β hβ => ?_; have hf := Tryd.func35
      repeat' (first | refine st ?_ | (refine AK.condS rfl (fun h => ?_) (fun h => ?_) <;> first | (cases h; done) | rw [h] | skip) | refine uW hf rfl rfl ?_ | refine uC rfl hk ?_ | refine uI rfl (0) rfl (rfl) rfl ?_ | refine uI rfl (1) rfl (rfl) rfl ?_ | refine uI rfl (2) rfl (rfl) rfl ?_ | (refine uA rfl ?_ ?_ <;> (try (show (_ : Nat) * _ ≤ _; dsimp only))) | ((first | refine AOps.splitT rfl rfl rfl asm (fun h => ?_) | refine AOps.splitF rfl rfl rfl asm (fun h => ?_) | refine AOps.split rfl rfl rfl (fun h => ?_) (fun h => ?_)) <;> (fail_if_success (cases h; done)) <;> rw [h]))
      all_goals first | exact Wk.refl _ | exact wk_bad rfl rfl | exact wk_nil2
  · obtain ⟨rfl, rfl⟩ := cFits_nil hf rfl
    clear hf
    rcases s with _ | ⟨⟨T, us⟩, r⟩
    · skip
      rw [show cShaping 53 (cCodes ([])) ([]) ([]) = cBad 5 from by simp [cShaping, tyT, tyArg, tyArgs, List.getD_cons_zero, List.getD_cons_succ, cCode]]
      rw [encCR_bad (by decide)]
      refine QCalls.of Tryd.func35 rfl (fun args w => Tryd.call35 args w) (Nat.le_of_ble_eq_true rfl) [(0, .c (encNd (.mk 2 nN 53 nS ([])))), (1, .c (.sl 2 (encTys ([])))), (2, .c (.sl 2 (encTys ([]))))] rfl fun β hβ => ?_; have hf := Tryd.func35
      repeat' (first | refine st ?_ | (refine AK.condS rfl (fun h => ?_) (fun h => ?_) <;> first | (cases h; done) | rw [h] | skip) | refine uW hf rfl rfl ?_ | refine uI rfl (0) rfl (rfl) rfl ?_ | refine uI rfl (1) rfl (rfl) rfl ?_ | refine uI rfl (2) rfl (rfl) rfl ?_ | (refine uA rfl ?_ ?_ <;> (try (show (_ : Nat) * _ ≤ _; dsimp only))) | ((first | refine AOps.splitT rfl rfl rfl asm (fun h => ?_) | refine AOps.splitF rfl rfl rfl asm (fun h => ?_) | refine AOps.split rfl rfl rfl (fun h => ?_) (fun h => ?_)) <;> (fail_if_success (cases h; done)) <;> rw [h]))
      all_goals first | exact Wk.refl _ | exact wk_bad rfl rfl | exact wk_nil2
    · skip
      have hp := cput_calls (r) [.mk 9 [.mk T us]]
      rw [encCR_ok'] at hp
      rw [show cShaping 53 (cCodes ([])) ([]) (.mk T us :: r) = cOk (.mk 9 [.mk T us] :: r) from by simp [cShaping, tyT, tyArg, tyArgs, List.getD_cons_zero, List.getD_cons_succ, cCode]]
      rw [encCR_ok']
      refine QCalls.of Tryd.func35 rfl (fun args w => Tryd.call35 args w) (Nat.le_of_ble_eq_true rfl) [(0, .c (encNd (.mk 2 nN 53 nS ([])))), (1, .c (.sl 2 (encTys ([])))), (2, .c (.sl 2 (encTys (.mk T us :: r))))] rfl fun β hβ => ?_; have hf := Tryd.func35
      repeat' (first | refine st ?_ | (refine AK.condS rfl (fun h => ?_) (fun h => ?_) <;> first | (cases h; done) | rw [h] | skip) | refine uW hf rfl rfl ?_ | refine uC rfl hp ?_ | refine uC rfl (one_calls 9 [.mk T us]) ?_ | refine uI rfl (0) rfl (rfl) rfl ?_ | refine uI rfl (1) rfl (rfl) rfl ?_ | refine uI rfl (2) rfl (rfl) rfl ?_ | (refine uA rfl ?_ ?_ <;> (try (show (_ : Nat) * _ ≤ _; dsimp only))) | ((first | refine AOps.splitT rfl rfl rfl asm (fun h => ?_) | refine AOps.splitF rfl rfl rfl asm (fun h => ?_) | refine AOps.split rfl rfl rfl (fun h => ?_) (fun h => ?_)) <;> (fail_if_success (cases h; done)) <;> rw [h]))
      all_goals first | exact Wk.refl _ | exact wk_bad rfl rfl | exact wk_nil2
  · obtain ⟨x0, t, rfl, rfl, ht⟩ := cFits_t hf rfl
    clear hf
    have ht2 := ht.2
    obtain ⟨V, ws⟩ := t
    have hp := cput_calls (s) [.mk 9 [.mk V ws]]
    rw [encCR_ok'] at hp
    rw [show cShaping 54 (cCodes ([x0])) ([.mk V ws]) (s) = cOk (.mk 9 [.mk V ws] :: s) from by simp [cShaping, tyT, tyArg, tyArgs, List.getD_cons_zero, List.getD_cons_succ, cCode]]
    rw [encCR_ok']
    refine QCalls.of Tryd.func35 rfl (fun args w => Tryd.call35 args w) (Nat.le_of_ble_eq_true rfl) [(0, .c (encNd (.mk 2 nN 54 nS ([x0])))), (1, .c (.sl 2 (encTys ([.mk V ws])))), (2, .c (.sl 2 (encTys (s))))] rfl fun β hβ => ?_; have hf := Tryd.func35
    repeat' (first | refine st ?_ | (refine AK.condS rfl (fun h => ?_) (fun h => ?_) <;> first | (cases h; done) | rw [h] | skip) | refine uW hf rfl rfl ?_ | refine uC rfl hp ?_ | refine uC rfl (one_calls 9 [.mk V ws]) ?_ | refine uI rfl (0) rfl (rfl) rfl ?_ | refine uI rfl (1) rfl (rfl) rfl ?_ | refine uI rfl (2) rfl (rfl) rfl ?_ | (refine uA rfl ?_ ?_ <;> (try (show (_ : Nat) * _ ≤ _; dsimp only))) | ((first | refine AOps.splitT rfl rfl rfl asm (fun h => ?_) | refine AOps.splitF rfl rfl rfl asm (fun h => ?_) | refine AOps.split rfl rfl rfl (fun h => ?_) (fun h => ?_)) <;> (fail_if_success (cases h; done)) <;> rw [h]))
    all_goals first | exact Wk.refl _ | exact wk_bad rfl rfl | exact wk_nil2
  · obtain ⟨n1, p1, S1, xs, n2, p2, S2, ys, rfl, rfl⟩ := cFits_cc hf rfl
    clear hf
    rcases s with _ | ⟨⟨T, us⟩, r⟩
    · skip
      rw [show cShaping 55 (cCodes ([.mk 3 n1 p1 S1 xs, .mk 3 n2 p2 S2 ys])) ([]) ([]) = cBad 5 from by simp [cShaping, tyT, tyArg, tyArgs, List.getD_cons_zero, List.getD_cons_succ, cCode]]
      rw [encCR_bad (by decide)]
      refine QCalls.of Tryd.func35 rfl (fun args w => Tryd.call35 args w) (Nat.le_of_ble_eq_true rfl) [(0, .c (encNd (.mk 2 nN 55 nS ([.mk 3 n1 p1 S1 xs, .mk 3 n2 p2 S2 ys])))), (1, .c (.sl 2 (encTys ([])))), (2, .c (.sl 2 (encTys ([]))))] rfl fun β hβ => ?_; have hf := Tryd.func35
      repeat' (first | refine st ?_ | (refine AK.condS rfl (fun h => ?_) (fun h => ?_) <;> first | (cases h; done) | rw [h] | skip) | refine uW hf rfl rfl ?_ | refine uI rfl (0) rfl (rfl) rfl ?_ | refine uI rfl (1) rfl (rfl) rfl ?_ | refine uI rfl (2) rfl (rfl) rfl ?_ | (refine uA rfl ?_ ?_ <;> (try (show (_ : Nat) * _ ≤ _; dsimp only))) | ((first | refine AOps.splitT rfl rfl rfl asm (fun h => ?_) | refine AOps.splitF rfl rfl rfl asm (fun h => ?_) | refine AOps.split rfl rfl rfl (fun h => ?_) (fun h => ?_)) <;> (fail_if_success (cases h; done)) <;> rw [h]))
      all_goals first | exact Wk.refl _ | exact wk_bad rfl rfl | exact wk_nil2
    by_cases hT : T = 9
    · subst hT
      simp only [List.length_cons] at hl
      have zr := encTys_length r
      have hs2 := (sOk_cons hs).2
      obtain ⟨⟨X, zs⟩, rfl, hx⟩ := tyOk_one (hs (.mk 9 us) (by simp)) rfl
      have hk := ckinds_calls (.mk 9 [.mk X zs] :: r) [9]
      rw [show kOk (.mk 9 [.mk X zs] :: r) [9] = true from by (simp [kOk_c, kOk_n, kOk_end]) <;> assumption] at hk
      have w1 := hrow (.mk 3 n1 p1 S1 xs) (by simp) (r) hs2 (by simp only [List.length_cons]; omega)
      have o1 := cRow_ok xs (r, false) hs2
      have w2 := hrow (.mk 3 n2 p2 S2 ys) (by simp) (.mk X zs :: r) (sOk_put hx hs2) (by simp only [List.length_cons]; omega)
      have o2 := cRow_ok ys (.mk X zs :: r, false) (sOk_put hx hs2)
      rw [show cShaping 55 (cCodes ([.mk 3 n1 p1 S1 xs, .mk 3 n2 p2 S2 ys])) ([]) (.mk 9 [.mk X zs] :: r) = cMerge (cRow xs (r, false)) (cRow ys (.mk X zs :: r, false)) from by simp [cShaping, tyT, tyArg, tyArgs, List.getD_cons_zero, List.getD_cons_succ, cCode, cCodes]]
      simp only [ndArgs] at w1
      generalize cRow xs (r, false) = r1 at w1 o1 ⊢
      obtain ⟨⟨t1, b1⟩, e1⟩ := r1
      simp only [List.length_cons] at o1
      simp only [ndArgs] at w2
      generalize cRow ys (.mk X zs :: r, false) = r2 at w2 o2 ⊢
      obtain ⟨⟨t2, b2⟩, e2⟩ := r2
      simp only [List.length_cons] at o2
      have hm := cmerge_calls ((t1, b1), e1) ((t2, b2), e2) o1.1 (by simp only; omega)
      generalize cMerge ((t1, b1), e1) ((t2, b2), e2) = rm at hm ⊢
      obtain ⟨⟨tm, bm⟩, em⟩ := rm
      refine QCalls.of Tryd.func35 rfl (fun args w => Tryd.call35 args w) (Nat.le_of_ble_eq_true rfl) [(0, .c (encNd (.mk 2 nN 55 nS ([.mk 3 n1 p1 S1 xs, .mk 3 n2 p2 S2 ys])))), (1, .c (.sl 2 (encTys ([])))), (2, .c (.sl 2 (encTys (.mk 9 [.mk X zs] :: r))))] rfl fun β hβ => ?_; have hf := Tryd.func35
      repeat' (first | refine st ?_ | (refine AK.condS rfl (fun h => ?_) (fun h => ?_) <;> first | (cases h; done) | rw [h] | skip) | refine uW hf rfl rfl ?_ | refine uC rfl hk ?_ | refine AOps.calle kn rfl rfl (cloneTy_calls r (by omega)) rfl (by (repeat' (first | exact rfl | exact trivial | refine ⟨_, _, rfl, ?_, ?_⟩ | refine ⟨_, _, _, rfl, rfl, ?_, ?_⟩)); done) rfl rfl rfl rfl rfl rfl rfl rfl rfl rfl rfl rfl rfl rfl ?_ | refine uC rfl w1 ?_ | refine uC rfl w2 ?_ | refine uC rfl hm ?_ | refine uI rfl (0) rfl (rfl) rfl ?_ | refine uI rfl (1) rfl (rfl) rfl ?_ | refine uI rfl (2) rfl (rfl) rfl ?_ | (refine uA rfl ?_ ?_ <;> (try (show (_ : Nat) * _ ≤ _; dsimp only))) | ((first | refine AOps.splitT rfl rfl rfl asm (fun h => ?_) | refine AOps.splitF rfl rfl rfl asm (fun h => ?_) | refine AOps.split rfl rfl rfl (fun h => ?_) (fun h => ?_)) <;> (fail_if_success (cases h; done)) <;> rw [h]))
      all_goals first | exact Wk.refl _ | exact wk_bad rfl rfl | exact wk_X | (show _ ≤ _; simp only [encTys, List.length_cons, List.length_nil]; omega)
    · skip
      have hk := ckinds_calls (.mk T us :: r) [9]
      rw [show kOk (.mk T us :: r) [9] = false from by (simp [kOk_c, kOk_n, kOk_end, hT]) <;> assumption] at hk
      rw [show cShaping 55 (cCodes ([.mk 3 n1 p1 S1 xs, .mk 3 n2 p2 S2 ys])) ([]) (.mk T us :: r) = cBad 5 from by simp [cShaping, tyT, tyArg, tyArgs, List.getD_cons_zero, List.getD_cons_succ, cCode, hT]]
      rw [encCR_bad (by decide)]
      refine QCalls.of Tryd.func35 rfl (fun args w => Tryd.call35 args w) (Nat.le_of_ble_eq_true rfl) [(0, .c (encNd (.mk 2 nN 55 nS ([.mk 3 n1 p1 S1 xs, .mk 3 n2 p2 S2 ys])))), (1, .c (.sl 2 (encTys ([])))), (2, .c (.sl 2 (encTys (.mk T us :: r))))] rfl fun β hβ => ?_; have hf := Tryd.func35
      repeat' (first | refine st ?_ | (refine AK.condS rfl (fun h => ?_) (fun h => ?_) <;> first | (cases h; done) | rw [h] | skip) | refine uW hf rfl rfl ?_ | refine uC rfl hk ?_ | refine uI rfl (0) rfl (rfl) rfl ?_ | refine uI rfl (1) rfl (rfl) rfl ?_ | refine uI rfl (2) rfl (rfl) rfl ?_ | (refine uA rfl ?_ ?_ <;> (try (show (_ : Nat) * _ ≤ _; dsimp only))) | ((first | refine AOps.splitT rfl rfl rfl asm (fun h => ?_) | refine AOps.splitF rfl rfl rfl asm (fun h => ?_) | refine AOps.split rfl rfl rfl (fun h => ?_) (fun h => ?_)) <;> (fail_if_success (cases h; done)) <;> rw [h]))
      all_goals first | exact Wk.refl _ | exact wk_bad rfl rfl | exact wk_nil2
  · obtain ⟨x0, t, rfl, rfl, ht⟩ := cFits_t hf rfl
    clear hf
    have ht2 := ht.2
    obtain ⟨V, ws⟩ := t
    have hp := cput_calls (s) [.mk 10 [.mk V ws]]
    rw [encCR_ok'] at hp
    rw [show cShaping 56 (cCodes ([x0])) ([.mk V ws]) (s) = cOk (.mk 10 [.mk V ws] :: s) from by simp [cShaping, tyT, tyArg, tyArgs, List.getD_cons_zero, List.getD_cons_succ, cCode]]
    rw [encCR_ok']
    refine QCalls.of Tryd.func35 rfl (fun args w => Tryd.call35 args w) (Nat.le_of_ble_eq_true rfl) [(0, .c (encNd (.mk 2 nN 56 nS ([x0])))), (1, .c (.sl 2 (encTys ([.mk V ws])))), (2, .c (.sl 2 (encTys (s))))] rfl fun β hβ => ?_; have hf := Tryd.func35
    repeat' (first | refine st ?_ | (refine AK.condS rfl (fun h => ?_) (fun h => ?_) <;> first | (cases h; done) | rw [h] | skip) | refine uW hf rfl rfl ?_ | refine uC rfl hp ?_ | refine uC rfl (one_calls 10 [.mk V ws]) ?_ | refine uI rfl (0) rfl (rfl) rfl ?_ | refine uI rfl (1) rfl (rfl) rfl ?_ | refine uI rfl (2) rfl (rfl) rfl ?_ | (refine uA rfl ?_ ?_ <;> (try (show (_ : Nat) * _ ≤ _; dsimp only))) | ((first | refine AOps.splitT rfl rfl rfl asm (fun h => ?_) | refine AOps.splitF rfl rfl rfl asm (fun h => ?_) | refine AOps.split rfl rfl rfl (fun h => ?_) (fun h => ?_)) <;> (fail_if_success (cases h; done)) <;> rw [h]))
    all_goals first | exact Wk.refl _ | exact wk_bad rfl rfl | exact wk_nil2
  · obtain ⟨rfl, rfl⟩ := cFits_nil hf rfl
    clear hf
    rcases s with _ | ⟨⟨T, us⟩, _ | ⟨⟨U, vs⟩, q⟩⟩
    · skip
      rw [show cShaping 57 (cCodes ([])) ([]) ([]) = cBad 5 from by simp [cShaping, tyT, tyArg, tyArgs, List.getD_cons_zero, List.getD_cons_succ, cCode]]
      rw [encCR_bad (by decide)]
      refine QCalls.of Tryd.func35 rfl (fun args w => Tryd.call35 args w) (Nat.le_of_ble_eq_true rfl) [(0, .c (encNd (.mk 2 nN 57 nS ([])))), (1, .c (.sl 2 (encTys ([])))), (2, .c (.sl 2 (encTys ([]))))] rfl fun β hβ => ?_; have hf := Tryd.func35
      repeat' (first | refine st ?_ | (refine AK.condS rfl (fun h => ?_) (fun h => ?_) <;> first | (cases h; done) | rw [h] | skip) | refine uW hf rfl rfl ?_ | refine uI rfl (0) rfl (rfl) rfl ?_ | refine uI rfl (1) rfl (rfl) rfl ?_ | refine uI rfl (2) rfl (rfl) rfl ?_ | (refine uA rfl ?_ ?_ <;> (try (show (_ : Nat) * _ ≤ _; dsimp only))) | ((first | refine AOps.splitT rfl rfl rfl asm (fun h => ?_) | refine AOps.splitF rfl rfl rfl asm (fun h => ?_) | refine AOps.split rfl rfl rfl (fun h => ?_) (fun h => ?_)) <;> (fail_if_success (cases h; done)) <;> rw [h]))
      all_goals first | exact Wk.refl _ | exact wk_bad rfl rfl | exact wk_nil2
    · skip
      have hk := ckinds_calls ([.mk T us]) [0, 10]
      rw [show kOk ([.mk T us]) [0, 10] = false from by (simp [kOk_c, kOk_n, kOk_end]) <;> assumption] at hk
      rw [show cShaping 57 (cCodes ([])) ([]) ([.mk T us]) = cBad 5 from by simp [cShaping, tyT, tyArg, tyArgs, List.getD_cons_zero, List.getD_cons_succ, cCode]]
      rw [encCR_bad (by decide)]
      refine QCalls.of Tryd.func35 rfl (fun args w => Tryd.call35 args w) (Nat.le_of_ble_eq_true rfl) [(0, .c (encNd (.mk 2 nN 57 nS ([])))), (1, .c (.sl 2 (encTys ([])))), (2, .c (.sl 2 (encTys ([.mk T us]))))] rfl fun β hβ => ?_; have hf := Tryd.func35
      repeat' (first | refine st ?_ | (refine AK.condS rfl (fun h => ?_) (fun h => ?_) <;> first | (cases h; done) | rw [h] | skip) | refine uW hf rfl rfl ?_ | refine uC rfl hk ?_ | refine uI rfl (0) rfl (rfl) rfl ?_ | refine uI rfl (1) rfl (rfl) rfl ?_ | refine uI rfl (2) rfl (rfl) rfl ?_ | (refine uA rfl ?_ ?_ <;> (try (show (_ : Nat) * _ ≤ _; dsimp only))) | ((first | refine AOps.splitT rfl rfl rfl asm (fun h => ?_) | refine AOps.splitF rfl rfl rfl asm (fun h => ?_) | refine AOps.split rfl rfl rfl (fun h => ?_) (fun h => ?_)) <;> (fail_if_success (cases h; done)) <;> rw [h]))
      all_goals first | exact Wk.refl _ | exact wk_bad rfl rfl | exact wk_nil2
    by_cases hU : U = 10
    · subst hU
      obtain ⟨⟨X, zs⟩, rfl, hx⟩ := tyOk_one (hs (.mk 10 vs) (by simp)) rfl
      have hk := ckinds_calls (.mk T us :: .mk 10 [.mk X zs] :: q) [0, 10]
      rw [show kOk (.mk T us :: .mk 10 [.mk X zs] :: q) [0, 10] = true from by (simp [kOk_c, kOk_n, kOk_end]) <;> assumption] at hk
      have h1 := Same_calls (.mk T us) (.mk X zs) (by have := (hs (.mk T us) (by simp)).2; omega)
      cases g1 : tySame (.mk T us) (.mk X zs)
      · rw [g1] at h1
        rw [show cShaping 57 (cCodes ([])) ([]) (.mk T us :: .mk 10 [.mk X zs] :: q) = cBad 5 from by simp [cShaping, tyT, tyArg, tyArgs, List.getD_cons_zero, List.getD_cons_succ, cCode, g1]]
        rw [encCR_bad (by decide)]
        refine QCalls.of Tryd.func35 rfl (fun args w => Tryd.call35 args w) (Nat.le_of_ble_eq_true rfl) [(0, .c (encNd (.mk 2 nN 57 nS ([])))), (1, .c (.sl 2 (encTys ([])))), (2, .c (.sl 2 (encTys (.mk T us :: .mk 10 [.mk X zs] :: q))))] rfl fun β hβ => ?_; have hf := Tryd.func35
        repeat' (first | refine st ?_ | (refine AK.condS rfl (fun h => ?_) (fun h => ?_) <;> first | (cases h; done) | rw [h] | skip) | refine uW hf rfl rfl ?_ | refine uC rfl hk ?_ | refine uC rfl h1 ?_ | refine uI rfl (0) rfl (rfl) rfl ?_ | refine uI rfl (1) rfl (rfl) rfl ?_ | refine uI rfl (2) rfl (rfl) rfl ?_ | (refine uA rfl ?_ ?_ <;> (try (show (_ : Nat) * _ ≤ _; dsimp only))) | ((first | refine AOps.splitT rfl rfl rfl asm (fun h => ?_) | refine AOps.splitF rfl rfl rfl asm (fun h => ?_) | refine AOps.split rfl rfl rfl (fun h => ?_) (fun h => ?_)) <;> (fail_if_success (cases h; done)) <;> rw [h]))
        all_goals first | exact Wk.refl _ | exact wk_bad rfl rfl | exact wk_nil2
      · rw [g1] at h1
        have hp := cput0_calls (.mk 10 [.mk X zs] :: q)
        rw [encCR_ok'] at hp
        rw [show cShaping 57 (cCodes ([])) ([]) (.mk T us :: .mk 10 [.mk X zs] :: q) = cOk (.mk 10 [.mk X zs] :: q) from by simp [cShaping, tyT, tyArg, tyArgs, List.getD_cons_zero, List.getD_cons_succ, cCode, g1]]
        rw [encCR_ok']
        refine QCalls.of Tryd.func35 rfl (fun args w => Tryd.call35 args w) (Nat.le_of_ble_eq_true rfl) [(0, .c (encNd (.mk 2 nN 57 nS ([])))), (1, .c (.sl 2 (encTys ([])))), (2, .c (.sl 2 (encTys (.mk T us :: .mk 10 [.mk X zs] :: q))))] rfl fun β hβ => ?_; have hf := Tryd.func35
        repeat' (first | refine st ?_ | (refine AK.condS rfl (fun h => ?_) (fun h => ?_) <;> first | (cases h; done) | rw [h] | skip) | refine uW hf rfl rfl ?_ | refine uC rfl hk ?_ | refine uC rfl h1 ?_ | refine uC rfl hp ?_ | refine uI rfl (0) rfl (rfl) rfl ?_ | refine uI rfl (1) rfl (rfl) rfl ?_ | refine uI rfl (2) rfl (rfl) rfl ?_ | (refine uA rfl ?_ ?_ <;> (try (show (_ : Nat) * _ ≤ _; dsimp only))) | ((first | refine AOps.splitT rfl rfl rfl asm (fun h => ?_) | refine AOps.splitF rfl rfl rfl asm (fun h => ?_) | refine AOps.split rfl rfl rfl (fun h => ?_) (fun h => ?_)) <;> (fail_if_success (cases h; done)) <;> rw [h]))
        all_goals first | exact Wk.refl _ | exact wk_bad rfl rfl | exact wk_nil2
    · skip
      have hk := ckinds_calls (.mk T us :: .mk U vs :: q) [0, 10]
      rw [show kOk (.mk T us :: .mk U vs :: q) [0, 10] = false from by (simp [kOk_c, kOk_n, kOk_end, hU]) <;> assumption] at hk
      rw [show cShaping 57 (cCodes ([])) ([]) (.mk T us :: .mk U vs :: q) = cBad 5 from by simp [cShaping, tyT, tyArg, tyArgs, List.getD_cons_zero, List.getD_cons_succ, cCode, hU]]
      rw [encCR_bad (by decide)]
      refine QCalls.of Tryd.func35 rfl (fun args w => Tryd.call35 args w) (Nat.le_of_ble_eq_true rfl) [(0, .c (encNd (.mk 2 nN 57 nS ([])))), (1, .c (.sl 2 (encTys ([])))), (2, .c (.sl 2 (encTys (.mk T us :: .mk U vs :: q))))] rfl fun β hβ => ?_; have hf := Tryd.func35
      repeat' (first | refine st ?_ | (refine AK.condS rfl (fun h => ?_) (fun h => ?_) <;> first | (cases h; done) | rw [h] | skip) | refine uW hf rfl rfl ?_ | refine uC rfl hk ?_ | refine uI rfl (0) rfl (rfl) rfl ?_ | refine uI rfl (1) rfl (rfl) rfl ?_ | refine uI rfl (2) rfl (rfl) rfl ?_ | (refine uA rfl ?_ ?_ <;> (try (show (_ : Nat) * _ ≤ _; dsimp only))) | ((first | refine AOps.splitT rfl rfl rfl asm (fun h => ?_) | refine AOps.splitF rfl rfl rfl asm (fun h => ?_) | refine AOps.split rfl rfl rfl (fun h => ?_) (fun h => ?_)) <;> (fail_if_success (cases h; done)) <;> rw [h]))
      all_goals first | exact Wk.refl _ | exact wk_bad rfl rfl | exact wk_nil2
  · obtain ⟨n1, p1, S1, xs, n2, p2, S2, ys, rfl, rfl⟩ := cFits_cc hf rfl
    clear hf
    rcases s with _ | ⟨⟨T, us⟩, r⟩
    · skip
      rw [show cShaping 58 (cCodes ([.mk 3 n1 p1 S1 xs, .mk 3 n2 p2 S2 ys])) ([]) ([]) = cBad 5 from by simp [cShaping, tyT, tyArg, tyArgs, List.getD_cons_zero, List.getD_cons_succ, cCode]]
      rw [encCR_bad (by decide)]
      refine QCalls.of Tryd.func35 rfl (fun args w => Tryd.call35 args w) (Nat.le_of_ble_eq_true rfl) [(0, .c (encNd (.mk 2 nN 58 nS ([.mk 3 n1 p1 S1 xs, .mk 3 n2 p2 S2 ys])))), (1, .c (.sl 2 (encTys ([])))), (2, .c (.sl 2 (encTys ([]))))] rfl fun β hβ => ?_; have hf := Tryd.func35
      repeat' (first | refine st ?_ | (refine AK.condS rfl (fun h => ?_) (fun h => ?_) <;> first | (cases h; done) | rw [h] | skip) | refine uW hf rfl rfl ?_ | refine uI rfl (0) rfl (rfl) rfl ?_ | refine uI rfl (1) rfl (rfl) rfl ?_ | refine uI rfl (2) rfl (rfl) rfl ?_ | (refine uA rfl ?_ ?_ <;> (try (show (_ : Nat) * _ ≤ _; dsimp only))) | ((first | refine AOps.splitT rfl rfl rfl asm (fun h => ?_) | refine AOps.splitF rfl rfl rfl asm (fun h => ?_) | refine AOps.split rfl rfl rfl (fun h => ?_) (fun h => ?_)) <;> (fail_if_success (cases h; done)) <;> rw [h]))
      all_goals first | exact Wk.refl _ | exact wk_bad rfl rfl | exact wk_nil2
    by_cases hT : T = 10
    · subst hT
      simp only [List.length_cons] at hl
      have zr := encTys_length r
      have hs2 := (sOk_cons hs).2
      obtain ⟨⟨X, zs⟩, rfl, hx⟩ := tyOk_one (hs (.mk 10 us) (by simp)) rfl
      have hk := ckinds_calls (.mk 10 [.mk X zs] :: r) [10]
      rw [show kOk (.mk 10 [.mk X zs] :: r) [10] = true from by (simp [kOk_c, kOk_n, kOk_end]) <;> assumption] at hk
      have w1 := hrow (.mk 3 n1 p1 S1 xs) (by simp) (.mk X zs :: .mk 10 [.mk X zs] :: r) (sOk_put hx hs) (by simp only [List.length_cons]; omega)
      have o1 := cRow_ok xs (.mk X zs :: .mk 10 [.mk X zs] :: r, false) (sOk_put hx hs)
      have w2 := hrow (.mk 3 n2 p2 S2 ys) (by simp) (r) hs2 (by simp only [List.length_cons]; omega)
      have o2 := cRow_ok ys (r, false) hs2
      rw [show cShaping 58 (cCodes ([.mk 3 n1 p1 S1 xs, .mk 3 n2 p2 S2 ys])) ([]) (.mk 10 [.mk X zs] :: r) = cMerge (cRow xs (.mk X zs :: .mk 10 [.mk X zs] :: r, false)) (cRow ys (r, false)) from by simp [cShaping, tyT, tyArg, tyArgs, List.getD_cons_zero, List.getD_cons_succ, cCode, cCodes]]
      simp only [ndArgs] at w1
      generalize cRow xs (.mk X zs :: .mk 10 [.mk X zs] :: r, false) = r1 at w1 o1 ⊢
      obtain ⟨⟨t1, b1⟩, e1⟩ := r1
      simp only [List.length_cons] at o1
      simp only [ndArgs] at w2
      generalize cRow ys (r, false) = r2 at w2 o2 ⊢
      obtain ⟨⟨t2, b2⟩, e2⟩ := r2
      simp only [List.length_cons] at o2
      have hm := cmerge_calls ((t1, b1), e1) ((t2, b2), e2) o1.1 (by simp only; omega)
      generalize cMerge ((t1, b1), e1) ((t2, b2), e2) = rm at hm ⊢
      obtain ⟨⟨tm, bm⟩, em⟩ := rm
      refine QCalls.of Tryd.func35 rfl (fun args w => Tryd.call35 args w) (Nat.le_of_ble_eq_true rfl) [(0, .c (encNd (.mk 2 nN 58 nS ([.mk 3 n1 p1 S1 xs, .mk 3 n2 p2 S2 ys])))), (1, .c (.sl 2 (encTys ([])))), (2, .c (.sl 2 (encTys (.mk 10 [.mk X zs] :: r))))] rfl fun β hβ => ?_; have hf := Tryd.func35
      repeat' (first | refine st ?_ | (refine AK.condS rfl (fun h => ?_) (fun h => ?_) <;> first | (cases h; done) | rw [h] | skip) | refine uW hf rfl rfl ?_ | refine uC rfl hk ?_ | refine AOps.calle kn rfl rfl (cloneTy_calls r (by omega)) rfl (by (repeat' (first | exact rfl | exact trivial | refine ⟨_, _, rfl, ?_, ?_⟩ | refine ⟨_, _, _, rfl, rfl, ?_, ?_⟩)); done) rfl rfl rfl rfl rfl rfl rfl rfl rfl rfl rfl rfl rfl rfl ?_ | refine uC rfl w1 ?_ | refine uC rfl w2 ?_ | refine uC rfl hm ?_ | refine uI rfl (0) rfl (rfl) rfl ?_ | refine uI rfl (1) rfl (rfl) rfl ?_ | refine uI rfl (2) rfl (rfl) rfl ?_ | (refine uA rfl ?_ ?_ <;> (try (show (_ : Nat) * _ ≤ _; dsimp only))) | ((first | refine AOps.splitT rfl rfl rfl asm (fun h => ?_) | refine AOps.splitF rfl rfl rfl asm (fun h => ?_) | refine AOps.split rfl rfl rfl (fun h => ?_) (fun h => ?_)) <;> (fail_if_success (cases h; done)) <;> rw [h]))
      all_goals first | exact Wk.refl _ | exact wk_bad rfl rfl | exact wk_X | (show _ ≤ _; simp only [encTys, List.length_cons, List.length_nil]; omega)
    · skip
      have hk := ckinds_calls (.mk T us :: r) [10]
      rw [show kOk (.mk T us :: r) [10] = false from by (simp [kOk_c, kOk_n, kOk_end, hT]) <;> assumption] at hk
      rw [show cShaping 58 (cCodes ([.mk 3 n1 p1 S1 xs, .mk 3 n2 p2 S2 ys])) ([]) (.mk T us :: r) = cBad 5 from by simp [cShaping, tyT, tyArg, tyArgs, List.getD_cons_zero, List.getD_cons_succ, cCode, hT]]
      rw [encCR_bad (by decide)]
      refine QCalls.of Tryd.func35 rfl (fun args w => Tryd.call35 args w) (Nat.le_of_ble_eq_true rfl) [(0, .c (encNd (.mk 2 nN 58 nS ([.mk 3 n1 p1 S1 xs, .mk 3 n2 p2 S2 ys])))), (1, .c (.sl 2 (encTys ([])))), (2, .c (.sl 2 (encTys (.mk T us :: r))))] rfl fun β hβ => ?_; have hf := Tryd.func35
      repeat' (first | refine st ?_ | (refine AK.condS rfl (fun h => ?_) (fun h => ?_) <;> first | (cases h; done) | rw [h] | skip) | refine uW hf rfl rfl ?_ | refine uC rfl hk ?_ | refine uI rfl (0) rfl (rfl) rfl ?_ | refine uI rfl (1) rfl (rfl) rfl ?_ | refine uI rfl (2) rfl (rfl) rfl ?_ | (refine uA rfl ?_ ?_ <;> (try (show (_ : Nat) * _ ≤ _; dsimp only))) | ((first | refine AOps.splitT rfl rfl rfl asm (fun h => ?_) | refine AOps.splitF rfl rfl rfl asm (fun h => ?_) | refine AOps.split rfl rfl rfl (fun h => ?_) (fun h => ?_)) <;> (fail_if_success (cases h; done)) <;> rw [h]))
      all_goals first | exact Wk.refl _ | exact wk_bad rfl rfl | exact wk_nil2
end Go.Proofs

-- WK
set_option linter.unusedVariables false
set_option linter.unusedSimpArgs false
namespace Go.Proofs
open Go.Abs
attribute [local irreducible] AK AOps QCalls ECalls tParse tComp tCopy tPack tStore tGood cRow cStep cCodes nMints tPar

set_option maxHeartbeats 0 in
theorem citems_calls (P nN : Int) (nS : List UInt8) (args : List Nd) (types s : List Ty) (hP : 59 ≤ P ∧ P ≤ 63) (hf : cFits P args = some types) (hs : sOk s) (hl : s.length ≤ 9999999990) (hsz : ndsSize args ≤ 8589934593)
    (hrow : ∀ a ∈ args, ∀ s' : List Ty, sOk s' → s'.length ≤ s.length + 1 → QCalls Tryd.prog Tryd.X 12 [.sl 5 (encNds (ndArgs a)), .sl 2 (encTys s')] (encCX (cRow (ndArgs a) (s', false)))) :
    QCalls Tryd.prog Tryd.X 36 [encNd (.mk 2 nN P nS args), .sl 2 (encTys types), .sl 2 (encTys s)] (encCR (cItems P (cCodes args) types s)) := by
  have hP2 : P = 59 ∨ P = 60 ∨ P = 61 ∨ P = 62 ∨ P = 63 := by omega
  clear hP
  rcases hP2 with rfl | rfl | rfl | rfl | rfl
  · obtain ⟨rfl, rfl⟩ := cFits_nil hf rfl
    clear hf
    rcases s with _ | ⟨⟨T, us⟩, r⟩
    · skip
      have hk0 := ckinds_calls ([]) [6]
      rw [show kOk ([]) [6] = false from by (simp [kOk_c, kOk_n, kOk_end]) <;> assumption] at hk0
      have hk1 := ckinds_calls ([]) [10]
      rw [show kOk ([]) [10] = false from by (simp [kOk_c, kOk_n, kOk_end]) <;> assumption] at hk1
      have hk2 := ckinds_calls ([]) [13]
      rw [show kOk ([]) [13] = false from by (simp [kOk_c, kOk_n, kOk_end]) <;> assumption] at hk2
      rw [show cItems 59 (cCodes ([])) ([]) ([]) = cBad 5 from by simp [cItems, tyT, tyArg, tyArgs, List.getD_cons_zero, List.getD_cons_succ, cCode]]
      rw [encCR_bad (by decide)]
      refine QCalls.of Tryd.func36 rfl (fun args w => Tryd.call36 args w) (Nat.le_of_ble_eq_true rfl) [(0, .c (encNd (.mk 2 nN 59 nS ([])))), (1, .c (.sl 2 (encTys ([])))), (2, .c (.sl 2 (encTys ([]))))] rfl fun β hβ => ?_; have hf := Tryd.func36
      repeat' (first | refine st ?_ | (refine AK.condS rfl (fun h => ?_) (fun h => ?_) <;> first | (cases h; done) | rw [h] | skip) | refine uW hf rfl rfl ?_ | refine uC rfl hk0 ?_ | refine uC rfl hk1 ?_ | refine uC rfl hk2 ?_ | refine uI rfl (0) rfl (rfl) rfl ?_ | refine uI rfl (1) rfl (rfl) rfl ?_ | refine uI rfl (2) rfl (rfl) rfl ?_ | (refine uA rfl ?_ ?_ <;> (try (show (_ : Nat) * _ ≤ _; dsimp only))) | ((first | refine AOps.splitT rfl rfl rfl asm (fun h => ?_) | refine AOps.splitF rfl rfl rfl asm (fun h => ?_) | refine AOps.split rfl rfl rfl (fun h => ?_) (fun h => ?_)) <;> (fail_if_success (cases h; done)) <;> rw [h]))
      all_goals first | exact Wk.refl _ | exact wk_bad rfl rfl | exact wk_nil2
    by_cases hT0 : T = 6
    · subst hT0
      have hk0 := ckinds_calls (.mk 6 us :: r) [6]
      rw [show kOk (.mk 6 us :: r) [6] = true from by (simp [kOk_c, kOk_n, kOk_end]) <;> assumption] at hk0
      have hp := cput_calls (r) [.mk 4 []]
      rw [encCR_ok'] at hp
      rw [show cItems 59 (cCodes ([])) ([]) (.mk 6 us :: r) = cOk (.mk 4 [] :: r) from by simp [cItems, tyT, tyArg, tyArgs, List.getD_cons_zero, List.getD_cons_succ, cCode]]
      rw [encCR_ok']
      refine QCalls.of Tryd.func36 rfl (fun args w => Tryd.call36 args w) (Nat.le_of_ble_eq_true rfl) [(0, .c (encNd (.mk 2 nN 59 nS ([])))), (1, .c (.sl 2 (encTys ([])))), (2, .c (.sl 2 (encTys (.mk 6 us :: r))))] rfl fun β hβ => ?_; have hf := Tryd.func36
      repeat' (first | refine st ?_ | (refine AK.condS rfl (fun h => ?_) (fun h => ?_) <;> first | (cases h; done) | rw [h] | skip) | refine uW hf rfl rfl ?_ | refine uC rfl hk0 ?_ | refine uC rfl hp ?_ | refine uC rfl (one0_calls 4) ?_ | refine uI rfl (0) rfl (rfl) rfl ?_ | refine uI rfl (1) rfl (rfl) rfl ?_ | refine uI rfl (2) rfl (rfl) rfl ?_ | (refine uA rfl ?_ ?_ <;> (try (show (_ : Nat) * _ ≤ _; dsimp only))) | ((first | refine AOps.splitT rfl rfl rfl asm (fun h => ?_) | refine AOps.splitF rfl rfl rfl asm (fun h => ?_) | refine AOps.split rfl rfl rfl (fun h => ?_) (fun h => ?_)) <;> (fail_if_success (cases h; done)) <;> rw [h]))
      all_goals first | exact Wk.refl _ | exact wk_bad rfl rfl | exact wk_nil2
    by_cases hT1 : T = 10
    · subst hT1
      have hk0 := ckinds_calls (.mk 10 us :: r) [6]
      rw [show kOk (.mk 10 us :: r) [6] = false from by (simp [kOk_c, kOk_n, kOk_end]) <;> assumption] at hk0
      have hk1 := ckinds_calls (.mk 10 us :: r) [10]
      rw [show kOk (.mk 10 us :: r) [10] = true from by (simp [kOk_c, kOk_n, kOk_end]) <;> assumption] at hk1
      have hp := cput_calls (r) [.mk 4 []]
      rw [encCR_ok'] at hp
      rw [show cItems 59 (cCodes ([])) ([]) (.mk 10 us :: r) = cOk (.mk 4 [] :: r) from by simp [cItems, tyT, tyArg, tyArgs, List.getD_cons_zero, List.getD_cons_succ, cCode]]
      rw [encCR_ok']
      refine QCalls.of Tryd.func36 rfl (fun args w => Tryd.call36 args w) (Nat.le_of_ble_eq_true rfl) [(0, .c (encNd (.mk 2 nN 59 nS ([])))), (1, .c (.sl 2 (encTys ([])))), (2, .c (.sl 2 (encTys (.mk 10 us :: r))))] rfl fun β hβ => ?_; have hf := Tryd.func36
      repeat' (first | refine st ?_ | (refine AK.condS rfl (fun h => ?_) (fun h => ?_) <;> first | (cases h; done) | rw [h] | skip) | refine uW hf rfl rfl ?_ | refine uC rfl hk0 ?_ | refine uC rfl hk1 ?_ | refine uC rfl hp ?_ | refine uC rfl (one0_calls 4) ?_ | refine uI rfl (0) rfl (rfl) rfl ?_ | refine uI rfl (1) rfl (rfl) rfl ?_ | refine uI rfl (2) rfl (rfl) rfl ?_ | (refine uA rfl ?_ ?_ <;> (try (show (_ : Nat) * _ ≤ _; dsimp only))) | ((first | refine AOps.splitT rfl rfl rfl asm (fun h => ?_) | refine AOps.splitF rfl rfl rfl asm (fun h => ?_) | refine AOps.split rfl rfl rfl (fun h => ?_) (fun h => ?_)) <;> (fail_if_success (cases h; done)) <;> rw [h]))
      all_goals first | exact Wk.refl _ | exact wk_bad rfl rfl | exact wk_nil2
    by_cases hT2 : T = 13
    · subst hT2
      have hk0 := ckinds_calls (.mk 13 us :: r) [6]
      rw [show kOk (.mk 13 us :: r) [6] = false from by (simp [kOk_c, kOk_n, kOk_end]) <;> assumption] at hk0
      have hk1 := ckinds_calls (.mk 13 us :: r) [10]
      rw [show kOk (.mk 13 us :: r) [10] = false from by (simp [kOk_c, kOk_n, kOk_end]) <;> assumption] at hk1
      have hk2 := ckinds_calls (.mk 13 us :: r) [13]
      rw [show kOk (.mk 13 us :: r) [13] = true from by (simp [kOk_c, kOk_n, kOk_end]) <;> assumption] at hk2
      have hp := cput_calls (r) [.mk 4 []]
      rw [encCR_ok'] at hp
      rw [show cItems 59 (cCodes ([])) ([]) (.mk 13 us :: r) = cOk (.mk 4 [] :: r) from by simp [cItems, tyT, tyArg, tyArgs, List.getD_cons_zero, List.getD_cons_succ, cCode]]
      rw [encCR_ok']
      refine QCalls.of Tryd.func36 rfl (fun args w => Tryd.call36 args w) (Nat.le_of_ble_eq_true rfl) [(0, .c (encNd (.mk 2 nN 59 nS ([])))), (1, .c (.sl 2 (encTys ([])))), (2, .c (.sl 2 (encTys (.mk 13 us :: r))))] rfl fun β hβ => ?_; have hf := Tryd.func36
      repeat' (first | refine st ?_ | (refine AK.condS rfl (fun h => ?_) (fun h => ?_) <;> first | (cases h; done) | rw [h] | skip) | refine uW hf rfl rfl ?_ | refine uC rfl hk0 ?_ | refine uC rfl hk1 ?_ | refine uC rfl hk2 ?_ | refine uC rfl hp ?_ | refine uC rfl (one0_calls 4) ?_ | refine uI rfl (0) rfl (rfl) rfl ?_ | refine uI rfl (1) rfl (rfl) rfl ?_ | refine uI rfl (2) rfl (rfl) rfl ?_ | (refine uA rfl ?_ ?_ <;> (try (show (_ : Nat) * _ ≤ _; dsimp only))) | ((first | refine AOps.splitT rfl rfl rfl asm (fun h => ?_) | refine AOps.splitF rfl rfl rfl asm (fun h => ?_) | refine AOps.split rfl rfl rfl (fun h => ?_) (fun h => ?_)) <;> (fail_if_success (cases h; done)) <;> rw [h]))
      all_goals first | exact Wk.refl _ | exact wk_bad rfl rfl | exact wk_nil2
    · skip
      have hk0 := ckinds_calls (.mk T us :: r) [6]
      rw [show kOk (.mk T us :: r) [6] = false from by (simp [kOk_c, kOk_n, kOk_end, hT0]) <;> assumption] at hk0
      have hk1 := ckinds_calls (.mk T us :: r) [10]
      rw [show kOk (.mk T us :: r) [10] = false from by (simp [kOk_c, kOk_n, kOk_end, hT1]) <;> assumption] at hk1
      have hk2 := ckinds_calls (.mk T us :: r) [13]
      rw [show kOk (.mk T us :: r) [13] = false from by (simp [kOk_c, kOk_n, kOk_end, hT2]) <;> assumption] at hk2
      rw [show cItems 59 (cCodes ([])) ([]) (.mk T us :: r) = cBad 5 from by simp [cItems, tyT, tyArg, tyArgs, List.getD_cons_zero, List.getD_cons_succ, cCode, hT0, hT1, hT2]]
      rw [encCR_bad (by decide)]
      refine QCalls.of Tryd.func36 rfl (fun args w => Tryd.call36 args w) (Nat.le_of_ble_eq_true rfl) [(0, .c (encNd (.mk 2 nN 59 nS ([])))), (1, .c (.sl 2 (encTys ([])))), (2, .c (.sl 2 (encTys (.mk T us :: r))))] rfl fun β hβ => ?_; have hf := Tryd.func36
      repeat' (first | refine st ?_ | (refine AK.condS rfl (fun h => ?_) (fun h => ?_) <;> first | (cases h; done) | rw [h] | skip) | refine uW hf rfl rfl ?_ | refine uC rfl hk0 ?_ | refine uC rfl hk1 ?_ | refine uC rfl hk2 ?_ | refine uI rfl (0) rfl (rfl) rfl ?_ | refine uI rfl (1) rfl (rfl) rfl ?_ | refine uI rfl (2) rfl (rfl) rfl ?_ | (refine uA rfl ?_ ?_ <;> (try (show (_ : Nat) * _ ≤ _; dsimp only))) | ((first | refine AOps.splitT rfl rfl rfl asm (fun h => ?_) | refine AOps.splitF rfl rfl rfl asm (fun h => ?_) | refine AOps.split rfl rfl rfl (fun h => ?_) (fun h => ?_)) <;> (fail_if_success (cases h; done)) <;> rw [h]))
      all_goals first | exact Wk.refl _ | exact wk_bad rfl rfl | exact wk_nil2
  · obtain ⟨n1, p1, S1, xs, rfl, rfl⟩ := cFits_c hf rfl
    clear hf
    rcases s with _ | ⟨⟨T, us⟩, r⟩
    · skip
      have hk0 := ckinds_calls ([]) [10]
      rw [show kOk ([]) [10] = false from by (simp [kOk_c, kOk_n, kOk_end]) <;> assumption] at hk0
      have hk1 := ckinds_calls ([]) [13]
      rw [show kOk ([]) [13] = false from by (simp [kOk_c, kOk_n, kOk_end]) <;> assumption] at hk1
      rw [show cItems 60 (cCodes ([.mk 3 n1 p1 S1 xs])) ([]) ([]) = cBad 5 from by simp [cItems, tyT, tyArg, tyArgs, List.getD_cons_zero, List.getD_cons_succ, cCode]]
      rw [encCR_bad (by decide)]
      refine QCalls.of Tryd.func36 rfl (fun args w => Tryd.call36 args w) (Nat.le_of_ble_eq_true rfl) [(0, .c (encNd (.mk 2 nN 60 nS ([.mk 3 n1 p1 S1 xs])))), (1, .c (.sl 2 (encTys ([])))), (2, .c (.sl 2 (encTys ([]))))] rfl fun β hβ => ?_; have hf := Tryd.func36
      repeat' (first | refine st ?_ | (refine AK.condS rfl (fun h => ?_) (fun h => ?_) <;> first | (cases h; done) | rw [h] | skip) | refine uW hf rfl rfl ?_ | refine uC rfl hk0 ?_ | refine uC rfl hk1 ?_ | refine uI rfl (0) rfl (rfl) rfl ?_ | refine uI rfl (1) rfl (rfl) rfl ?_ | refine uI rfl (2) rfl (rfl) rfl ?_ | (refine uA rfl ?_ ?_ <;> (try (show (_ : Nat) * _ ≤ _; dsimp only))) | ((first | refine AOps.splitT rfl rfl rfl asm (fun h => ?_) | refine AOps.splitF rfl rfl rfl asm (fun h => ?_) | refine AOps.split rfl rfl rfl (fun h => ?_) (fun h => ?_)) <;> (fail_if_success (cases h; done)) <;> rw [h]))
      all_goals first | exact Wk.refl _ | exact wk_bad rfl rfl | exact wk_nil2
    by_cases hT0 : T = 10
    · subst hT0
      simp only [List.length_cons] at hl
      have zr := encTys_length r
      have hs2 := (sOk_cons hs).2
      obtain ⟨⟨X, zs⟩, rfl, hx⟩ := tyOk_one (hs (.mk 10 us) (by simp)) rfl
      have hk0 := ckinds_calls (.mk 10 [.mk X zs] :: r) [10]
      rw [show kOk (.mk 10 [.mk X zs] :: r) [10] = true from by (simp [kOk_c, kOk_n, kOk_end]) <;> assumption] at hk0
      have w1 := hrow (.mk 3 n1 p1 S1 xs) (by simp) (.mk X zs :: r) (sOk_put hx hs2) (by simp only [List.length_cons]; omega)
      have o1 := cRow_ok xs (.mk X zs :: r, false) (sOk_put hx hs2)
      rw [show cItems 60 (cCodes ([.mk 3 n1 p1 S1 xs])) ([]) (.mk 10 [.mk X zs] :: r) = cMerge (cRow xs (.mk X zs :: r, false)) (cOk (r)) from by simp [cItems, tyT, tyArg, tyArgs, List.getD_cons_zero, List.getD_cons_succ, cCode, cCodes]]
      simp only [ndArgs] at w1
      generalize cRow xs (.mk X zs :: r, false) = r1 at w1 o1 ⊢
      obtain ⟨⟨t1, b1⟩, e1⟩ := r1
      simp only [List.length_cons] at o1
      change QCalls _ _ _ _ (encCR (cMerge ((t1, b1), e1) ((r, false), 0)))
      have hm := cmerge_calls ((t1, b1), e1) ((r, false), 0) o1.1 (by simp only; omega)
      generalize cMerge ((t1, b1), e1) ((r, false), 0) = rm at hm ⊢
      obtain ⟨⟨tm, bm⟩, em⟩ := rm
      refine QCalls.of Tryd.func36 rfl (fun args w => Tryd.call36 args w) (Nat.le_of_ble_eq_true rfl) [(0, .c (encNd (.mk 2 nN 60 nS ([.mk 3 n1 p1 S1 xs])))), (1, .c (.sl 2 (encTys ([])))), (2, .c (.sl 2 (encTys (.mk 10 [.mk X zs] :: r))))] rfl fun β hβ => ?_; have hf := Tryd.func36
      repeat' (first | refine st ?_ | (refine AK.condS rfl (fun h => ?_) (fun h => ?_) <;> first | (cases h; done) | rw [h] | skip) | refine uW hf rfl rfl ?_ | refine uC rfl hk0 ?_ | refine AOps.calle kn rfl rfl (cloneTy_calls r (by omega)) rfl (by (repeat' (first | exact rfl | exact trivial | refine ⟨_, _, rfl, ?_, ?_⟩ | refine ⟨_, _, _, rfl, rfl, ?_, ?_⟩)); done) rfl rfl rfl rfl rfl rfl rfl rfl rfl rfl rfl rfl rfl rfl ?_ | refine uC rfl w1 ?_ | refine uC rfl hm ?_ | refine uI rfl (0) rfl (rfl) rfl ?_ | refine uI rfl (1) rfl (rfl) rfl ?_ | refine uI rfl (2) rfl (rfl) rfl ?_ | (refine uA rfl ?_ ?_ <;> (try (show (_ : Nat) * _ ≤ _; dsimp only))) | ((first | refine AOps.splitT rfl rfl rfl asm (fun h => ?_) | refine AOps.splitF rfl rfl rfl asm (fun h => ?_) | refine AOps.split rfl rfl rfl (fun h => ?_) (fun h => ?_)) <;> (fail_if_success (cases h; done)) <;> rw [h]))
      all_goals first | exact Wk.refl _ | exact wk_bad rfl rfl | exact wk_X | (show _ ≤ _; simp only [encTys, List.length_cons, List.length_nil]; omega)
    by_cases hT1 : T = 13
    · subst hT1
      simp only [List.length_cons] at hl
      have zr := encTys_length r
      have hs2 := (sOk_cons hs).2
      have hx : tyOk (.mk 11 us) := tyOk_map (hs (.mk 13 us) (by simp)) rfl
      obtain ⟨⟨X, zs⟩, ⟨Y, ys⟩, rfl, hx1, hy1⟩ := tyOk_two hx rfl
      have hk0 := ckinds_calls (.mk 13 [.mk X zs, .mk Y ys] :: r) [10]
      rw [show kOk (.mk 13 [.mk X zs, .mk Y ys] :: r) [10] = false from by (simp [kOk_c, kOk_n, kOk_end]) <;> assumption] at hk0
      have hk1 := ckinds_calls (.mk 13 [.mk X zs, .mk Y ys] :: r) [13]
      rw [show kOk (.mk 13 [.mk X zs, .mk Y ys] :: r) [13] = true from by (simp [kOk_c, kOk_n, kOk_end]) <;> assumption] at hk1
      have w1 := hrow (.mk 3 n1 p1 S1 xs) (by simp) (.mk 11 [.mk X zs, .mk Y ys] :: r) (sOk_put hx hs2) (by simp only [List.length_cons]; omega)
      have o1 := cRow_ok xs (.mk 11 [.mk X zs, .mk Y ys] :: r, false) (sOk_put hx hs2)
      rw [show cItems 60 (cCodes ([.mk 3 n1 p1 S1 xs])) ([]) (.mk 13 [.mk X zs, .mk Y ys] :: r) = cMerge (cRow xs (.mk 11 [.mk X zs, .mk Y ys] :: r, false)) (cOk (r)) from by simp [cItems, tyT, tyArg, tyArgs, List.getD_cons_zero, List.getD_cons_succ, cCode, cCodes]]
      simp only [ndArgs] at w1
      generalize cRow xs (.mk 11 [.mk X zs, .mk Y ys] :: r, false) = r1 at w1 o1 ⊢
      obtain ⟨⟨t1, b1⟩, e1⟩ := r1
      simp only [List.length_cons] at o1
      change QCalls _ _ _ _ (encCR (cMerge ((t1, b1), e1) ((r, false), 0)))
      have hm := cmerge_calls ((t1, b1), e1) ((r, false), 0) o1.1 (by simp only; omega)
      generalize cMerge ((t1, b1), e1) ((r, false), 0) = rm at hm ⊢
      obtain ⟨⟨tm, bm⟩, em⟩ := rm
      refine QCalls.of Tryd.func36 rfl (fun args w => Tryd.call36 args w) (Nat.le_of_ble_eq_true rfl) [(0, .c (encNd (.mk 2 nN 60 nS ([.mk 3 n1 p1 S1 xs])))), (1, .c (.sl 2 (encTys ([])))), (2, .c (.sl 2 (encTys (.mk 13 [.mk X zs, .mk Y ys] :: r))))] rfl fun β hβ => ?_; have hf := Tryd.func36
      repeat' (first | refine st ?_ | (refine AK.condS rfl (fun h => ?_) (fun h => ?_) <;> first | (cases h; done) | rw [h] | skip) | refine uW hf rfl rfl ?_ | refine uC rfl hk0 ?_ | refine uC rfl hk1 ?_ | refine uC rfl (one_calls 11 [.mk X zs, .mk Y ys]) ?_ | refine AOps.calle kn rfl rfl (cloneTy_calls r (by omega)) rfl (by (repeat' (first | exact rfl | exact trivial | refine ⟨_, _, rfl, ?_, ?_⟩ | refine ⟨_, _, _, rfl, rfl, ?_, ?_⟩)); done) rfl rfl rfl rfl rfl rfl rfl rfl rfl rfl rfl rfl rfl rfl ?_ | refine uC rfl w1 ?_ | refine uC rfl hm ?_ | refine uI rfl (0) rfl (rfl) rfl ?_ | refine uI rfl (1) rfl (rfl) rfl ?_ | refine uI rfl (2) rfl (rfl) rfl ?_ | (refine uA rfl ?_ ?_ <;> (try (show (_ : Nat) * _ ≤ _; dsimp only))) | ((first | refine AOps.splitT rfl rfl rfl asm (fun h => ?_) | refine AOps.splitF rfl rfl rfl asm (fun h => ?_) | refine AOps.split rfl rfl rfl (fun h => ?_) (fun h => ?_)) <;> (fail_if_success (cases h; done)) <;> rw [h]))
      all_goals first | exact Wk.refl _ | exact wk_bad rfl rfl | exact wk_X | (show _ ≤ _; simp only [encTys, List.length_cons, List.length_nil]; omega)
    · skip
      have hk0 := ckinds_calls (.mk T us :: r) [10]
      rw [show kOk (.mk T us :: r) [10] = false from by (simp [kOk_c, kOk_n, kOk_end, hT0]) <;> assumption] at hk0
      have hk1 := ckinds_calls (.mk T us :: r) [13]
      rw [show kOk (.mk T us :: r) [13] = false from by (simp [kOk_c, kOk_n, kOk_end, hT1]) <;> assumption] at hk1
      rw [show cItems 60 (cCodes ([.mk 3 n1 p1 S1 xs])) ([]) (.mk T us :: r) = cBad 5 from by simp [cItems, tyT, tyArg, tyArgs, List.getD_cons_zero, List.getD_cons_succ, cCode, hT0, hT1]]
      rw [encCR_bad (by decide)]
      refine QCalls.of Tryd.func36 rfl (fun args w => Tryd.call36 args w) (Nat.le_of_ble_eq_true rfl) [(0, .c (encNd (.mk 2 nN 60 nS ([.mk 3 n1 p1 S1 xs])))), (1, .c (.sl 2 (encTys ([])))), (2, .c (.sl 2 (encTys (.mk T us :: r))))] rfl fun β hβ => ?_; have hf := Tryd.func36
      repeat' (first | refine st ?_ | (refine AK.condS rfl (fun h => ?_) (fun h => ?_) <;> first | (cases h; done) | rw [h] | skip) | refine uW hf rfl rfl ?_ | refine uC rfl hk0 ?_ | refine uC rfl hk1 ?_ | refine uI rfl (0) rfl (rfl) rfl ?_ | refine uI rfl (1) rfl (rfl) rfl ?_ | refine uI rfl (2) rfl (rfl) rfl ?_ | (refine uA rfl ?_ ?_ <;> (try (show (_ : Nat) * _ ≤ _; dsimp only))) | ((first | refine AOps.splitT rfl rfl rfl asm (fun h => ?_) | refine AOps.splitF rfl rfl rfl asm (fun h => ?_) | refine AOps.split rfl rfl rfl (fun h => ?_) (fun h => ?_)) <;> (fail_if_success (cases h; done)) <;> rw [h]))
      all_goals first | exact Wk.refl _ | exact wk_bad rfl rfl | exact wk_nil2
  · obtain ⟨x0, y0, t, u, rfl, rfl, ht, hu⟩ := cFits_tt hf rfl
    clear hf
    have ht2 := ht.2
    obtain ⟨V, ws⟩ := t
    have hu2 := hu.2
    obtain ⟨V2, ws2⟩ := u
    have h2 := Comparable_calls (.mk V ws) (by omega)
    cases g2 : tComp (.mk V ws)
    · rw [g2] at h2
      rw [show cItems 61 (cCodes ([x0, y0])) ([.mk V ws, .mk V2 ws2]) (s) = cBad 5 from by simp [cItems, tyT, tyArg, tyArgs, List.getD_cons_zero, List.getD_cons_succ, cCode, g2]]
      rw [encCR_bad (by decide)]
      refine QCalls.of Tryd.func36 rfl (fun args w => Tryd.call36 args w) (Nat.le_of_ble_eq_true rfl) [(0, .c (encNd (.mk 2 nN 61 nS ([x0, y0])))), (1, .c (.sl 2 (encTys ([.mk V ws, .mk V2 ws2])))), (2, .c (.sl 2 (encTys (s))))] rfl fun β hβ => ?_; have hf := Tryd.func36
      repeat' (first | refine st ?_ | (refine AK.condS rfl (fun h => ?_) (fun h => ?_) <;> first | (cases h; done) | rw [h] | skip) | refine uW hf rfl rfl ?_ | refine uC rfl h2 ?_ | refine uI rfl (0) rfl (rfl) rfl ?_ | refine uI rfl (1) rfl (rfl) rfl ?_ | refine uI rfl (2) rfl (rfl) rfl ?_ | (refine uA rfl ?_ ?_ <;> (try (show (_ : Nat) * _ ≤ _; dsimp only))) | ((first | refine AOps.splitT rfl rfl rfl asm (fun h => ?_) | refine AOps.splitF rfl rfl rfl asm (fun h => ?_) | refine AOps.split rfl rfl rfl (fun h => ?_) (fun h => ?_)) <;> (fail_if_success (cases h; done)) <;> rw [h]))
      all_goals first | exact Wk.refl _ | exact wk_bad rfl rfl | exact wk_nil2
    · rw [g2] at h2
      have hp := cput_calls (s) [.mk 13 [.mk V ws, .mk V2 ws2]]
      rw [encCR_ok'] at hp
      rw [show cItems 61 (cCodes ([x0, y0])) ([.mk V ws, .mk V2 ws2]) (s) = cOk (.mk 13 [.mk V ws, .mk V2 ws2] :: s) from by simp [cItems, tyT, tyArg, tyArgs, List.getD_cons_zero, List.getD_cons_succ, cCode, g2]]
      rw [encCR_ok']
      refine QCalls.of Tryd.func36 rfl (fun args w => Tryd.call36 args w) (Nat.le_of_ble_eq_true rfl) [(0, .c (encNd (.mk 2 nN 61 nS ([x0, y0])))), (1, .c (.sl 2 (encTys ([.mk V ws, .mk V2 ws2])))), (2, .c (.sl 2 (encTys (s))))] rfl fun β hβ => ?_; have hf := Tryd.func36
      repeat' (first | refine st ?_ | (refine AK.condS rfl (fun h => ?_) (fun h => ?_) <;> first | (cases h; done) | rw [h] | skip) | refine uW hf rfl rfl ?_ | refine uC rfl h2 ?_ | refine uC rfl hp ?_ | refine uC rfl (one_calls 13 [.mk V ws, .mk V2 ws2]) ?_ | refine uI rfl (0) rfl (rfl) rfl ?_ | refine uI rfl (1) rfl (rfl) rfl ?_ | refine uI rfl (2) rfl (rfl) rfl ?_ | (refine uA rfl ?_ ?_ <;> (try (show (_ : Nat) * _ ≤ _; dsimp only))) | ((first | refine AOps.splitT rfl rfl rfl asm (fun h => ?_) | refine AOps.splitF rfl rfl rfl asm (fun h => ?_) | refine AOps.split rfl rfl rfl (fun h => ?_) (fun h => ?_)) <;> (fail_if_success (cases h; done)) <;> rw [h]))
      all_goals first | exact Wk.refl _ | exact wk_bad rfl rfl | exact wk_nil2
  · obtain ⟨rfl, rfl⟩ := cFits_nil hf rfl
    clear hf
    rcases s with _ | ⟨⟨T, us⟩, _ | ⟨⟨U, vs⟩, q⟩⟩
    · skip
      have hk := ckinds_calls ([]) [0, 13]
      rw [show kOk ([]) [0, 13] = false from by (simp [kOk_c, kOk_n, kOk_end]) <;> assumption] at hk
      rw [show cItems 62 (cCodes ([])) ([]) ([]) = cBad 5 from by simp [cItems, tyT, tyArg, tyArgs, List.getD_cons_zero, List.getD_cons_succ, cCode]]
      rw [encCR_bad (by decide)]
      refine QCalls.of Tryd.func36 rfl (fun args w => Tryd.call36 args w) (Nat.le_of_ble_eq_true rfl) [(0, .c (encNd (.mk 2 nN 62 nS ([])))), (1, .c (.sl 2 (encTys ([])))), (2, .c (.sl 2 (encTys ([]))))] rfl fun β hβ => ?_; have hf := Tryd.func36
      repeat' (first | refine st ?_ | (refine AK.condS rfl (fun h => ?_) (fun h => ?_) <;> first | (cases h; done) | rw [h] | skip) | refine uW hf rfl rfl ?_ | refine uC rfl hk ?_ | refine uI rfl (0) rfl (rfl) rfl ?_ | refine uI rfl (1) rfl (rfl) rfl ?_ | refine uI rfl (2) rfl (rfl) rfl ?_ | (refine uA rfl ?_ ?_ <;> (try (show (_ : Nat) * _ ≤ _; dsimp only))) | ((first | refine AOps.splitT rfl rfl rfl asm (fun h => ?_) | refine AOps.splitF rfl rfl rfl asm (fun h => ?_) | refine AOps.split rfl rfl rfl (fun h => ?_) (fun h => ?_)) <;> (fail_if_success (cases h; done)) <;> rw [h]))
      all_goals first | exact Wk.refl _ | exact wk_bad rfl rfl | exact wk_nil2
    · skip
      have hk := ckinds_calls ([.mk T us]) [0, 13]
      rw [show kOk ([.mk T us]) [0, 13] = false from by (simp [kOk_c, kOk_n, kOk_end]) <;> assumption] at hk
      rw [show cItems 62 (cCodes ([])) ([]) ([.mk T us]) = cBad 5 from by simp [cItems, tyT, tyArg, tyArgs, List.getD_cons_zero, List.getD_cons_succ, cCode]]
      rw [encCR_bad (by decide)]
      refine QCalls.of Tryd.func36 rfl (fun args w => Tryd.call36 args w) (Nat.le_of_ble_eq_true rfl) [(0, .c (encNd (.mk 2 nN 62 nS ([])))), (1, .c (.sl 2 (encTys ([])))), (2, .c (.sl 2 (encTys ([.mk T us]))))] rfl fun β hβ => ?_; have hf := Tryd.func36
      repeat' (first | refine st ?_ | (refine AK.condS rfl (fun h => ?_) (fun h => ?_) <;> first | (cases h; done) | rw [h] | skip) | refine uW hf rfl rfl ?_ | refine uC rfl hk ?_ | refine uI rfl (0) rfl (rfl) rfl ?_ | refine uI rfl (1) rfl (rfl) rfl ?_ | refine uI rfl (2) rfl (rfl) rfl ?_ | (refine uA rfl ?_ ?_ <;> (try (show (_ : Nat) * _ ≤ _; dsimp only))) | ((first | refine AOps.splitT rfl rfl rfl asm (fun h => ?_) | refine AOps.splitF rfl rfl rfl asm (fun h => ?_) | refine AOps.split rfl rfl rfl (fun h => ?_) (fun h => ?_)) <;> (fail_if_success (cases h; done)) <;> rw [h]))
      all_goals first | exact Wk.refl _ | exact wk_bad rfl rfl | exact wk_nil2
    by_cases hU : U = 13
    · subst hU
      obtain ⟨⟨X, zs⟩, ⟨Y, ys⟩, rfl, hx, hy⟩ := tyOk_two (hs (.mk 13 vs) (by simp)) rfl
      have hk := ckinds_calls (.mk T us :: .mk 13 [.mk X zs, .mk Y ys] :: q) [0, 13]
      rw [show kOk (.mk T us :: .mk 13 [.mk X zs, .mk Y ys] :: q) [0, 13] = true from by (simp [kOk_c, kOk_n, kOk_end]) <;> assumption] at hk
      have hy2 := hy.2
      have h1 := Same_calls (.mk T us) (.mk X zs) (by have := (hs (.mk T us) (by simp)).2; omega)
      have h2 := Copied_calls (.mk Y ys) (by omega)
      cases g1 : tySame (.mk T us) (.mk X zs)
      · rw [g1] at h1
        rw [show cItems 62 (cCodes ([])) ([]) (.mk T us :: .mk 13 [.mk X zs, .mk Y ys] :: q) = cBad 5 from by simp [cItems, tyT, tyArg, tyArgs, List.getD_cons_zero, List.getD_cons_succ, cCode, g1]]
        rw [encCR_bad (by decide)]
        refine QCalls.of Tryd.func36 rfl (fun args w => Tryd.call36 args w) (Nat.le_of_ble_eq_true rfl) [(0, .c (encNd (.mk 2 nN 62 nS ([])))), (1, .c (.sl 2 (encTys ([])))), (2, .c (.sl 2 (encTys (.mk T us :: .mk 13 [.mk X zs, .mk Y ys] :: q))))] rfl fun β hβ => ?_; have hf := Tryd.func36
        repeat' (first | refine st ?_ | (refine AK.condS rfl (fun h => ?_) (fun h => ?_) <;> first | (cases h; done) | rw [h] | skip) | refine uW hf rfl rfl ?_ | refine uC rfl hk ?_ | refine uC rfl h1 ?_ | refine uI rfl (0) rfl (rfl) rfl ?_ | refine uI rfl (1) rfl (rfl) rfl ?_ | refine uI rfl (2) rfl (rfl) rfl ?_ | (refine uA rfl ?_ ?_ <;> (try (show (_ : Nat) * _ ≤ _; dsimp only))) | ((first | refine AOps.splitT rfl rfl rfl asm (fun h => ?_) | refine AOps.splitF rfl rfl rfl asm (fun h => ?_) | refine AOps.split rfl rfl rfl (fun h => ?_) (fun h => ?_)) <;> (fail_if_success (cases h; done)) <;> rw [h]))
        all_goals first | exact Wk.refl _ | exact wk_bad rfl rfl | exact wk_nil2
      cases g2 : tCopy (.mk Y ys)
      · rw [g1] at h1; rw [g2] at h2
        rw [show cItems 62 (cCodes ([])) ([]) (.mk T us :: .mk 13 [.mk X zs, .mk Y ys] :: q) = cBad 5 from by simp [cItems, tyT, tyArg, tyArgs, List.getD_cons_zero, List.getD_cons_succ, cCode, g1, g2]]
        rw [encCR_bad (by decide)]
        refine QCalls.of Tryd.func36 rfl (fun args w => Tryd.call36 args w) (Nat.le_of_ble_eq_true rfl) [(0, .c (encNd (.mk 2 nN 62 nS ([])))), (1, .c (.sl 2 (encTys ([])))), (2, .c (.sl 2 (encTys (.mk T us :: .mk 13 [.mk X zs, .mk Y ys] :: q))))] rfl fun β hβ => ?_; have hf := Tryd.func36
        repeat' (first | refine st ?_ | (refine AK.condS rfl (fun h => ?_) (fun h => ?_) <;> first | (cases h; done) | rw [h] | skip) | refine uW hf rfl rfl ?_ | refine uC rfl hk ?_ | refine uC rfl h1 ?_ | refine uC rfl h2 ?_ | refine uI rfl (0) rfl (rfl) rfl ?_ | refine uI rfl (1) rfl (rfl) rfl ?_ | refine uI rfl (2) rfl (rfl) rfl ?_ | (refine uA rfl ?_ ?_ <;> (try (show (_ : Nat) * _ ≤ _; dsimp only))) | ((first | refine AOps.splitT rfl rfl rfl asm (fun h => ?_) | refine AOps.splitF rfl rfl rfl asm (fun h => ?_) | refine AOps.split rfl rfl rfl (fun h => ?_) (fun h => ?_)) <;> (fail_if_success (cases h; done)) <;> rw [h]))
        all_goals first | exact Wk.refl _ | exact wk_bad rfl rfl | exact wk_nil2
      · rw [g1] at h1; rw [g2] at h2
        have hp := cput_calls (q) [.mk 9 [.mk Y ys]]
        rw [encCR_ok'] at hp
        rw [show cItems 62 (cCodes ([])) ([]) (.mk T us :: .mk 13 [.mk X zs, .mk Y ys] :: q) = cOk (.mk 9 [.mk Y ys] :: q) from by simp [cItems, tyT, tyArg, tyArgs, List.getD_cons_zero, List.getD_cons_succ, cCode, g1, g2]]
        rw [encCR_ok']
        refine QCalls.of Tryd.func36 rfl (fun args w => Tryd.call36 args w) (Nat.le_of_ble_eq_true rfl) [(0, .c (encNd (.mk 2 nN 62 nS ([])))), (1, .c (.sl 2 (encTys ([])))), (2, .c (.sl 2 (encTys (.mk T us :: .mk 13 [.mk X zs, .mk Y ys] :: q))))] rfl fun β hβ => ?_; have hf := Tryd.func36
        repeat' (first | refine st ?_ | (refine AK.condS rfl (fun h => ?_) (fun h => ?_) <;> first | (cases h; done) | rw [h] | skip) | refine uW hf rfl rfl ?_ | refine uC rfl hk ?_ | refine uC rfl h1 ?_ | refine uC rfl h2 ?_ | refine uC rfl hp ?_ | refine uC rfl (one_calls 9 [.mk Y ys]) ?_ | refine uI rfl (0) rfl (rfl) rfl ?_ | refine uI rfl (1) rfl (rfl) rfl ?_ | refine uI rfl (2) rfl (rfl) rfl ?_ | (refine uA rfl ?_ ?_ <;> (try (show (_ : Nat) * _ ≤ _; dsimp only))) | ((first | refine AOps.splitT rfl rfl rfl asm (fun h => ?_) | refine AOps.splitF rfl rfl rfl asm (fun h => ?_) | refine AOps.split rfl rfl rfl (fun h => ?_) (fun h => ?_)) <;> (fail_if_success (cases h; done)) <;> rw [h]))
        all_goals first | exact Wk.refl _ | exact wk_bad rfl rfl | exact wk_nil2
    · skip
      have hk := ckinds_calls (.mk T us :: .mk U vs :: q) [0, 13]
      rw [show kOk (.mk T us :: .mk U vs :: q) [0, 13] = false from by (simp [kOk_c, kOk_n, kOk_end, hU]) <;> assumption] at hk
      rw [show cItems 62 (cCodes ([])) ([]) (.mk T us :: .mk U vs :: q) = cBad 5 from by simp [cItems, tyT, tyArg, tyArgs, List.getD_cons_zero, List.getD_cons_succ, cCode, hU]]
      rw [encCR_bad (by decide)]
      refine QCalls.of Tryd.func36 rfl (fun args w => Tryd.call36 args w) (Nat.le_of_ble_eq_true rfl) [(0, .c (encNd (.mk 2 nN 62 nS ([])))), (1, .c (.sl 2 (encTys ([])))), (2, .c (.sl 2 (encTys (.mk T us :: .mk U vs :: q))))] rfl fun β hβ => ?_; have hf := Tryd.func36
      repeat' (first | refine st ?_ | (refine AK.condS rfl (fun h => ?_) (fun h => ?_) <;> first | (cases h; done) | rw [h] | skip) | refine uW hf rfl rfl ?_ | refine uC rfl hk ?_ | refine uI rfl (0) rfl (rfl) rfl ?_ | refine uI rfl (1) rfl (rfl) rfl ?_ | refine uI rfl (2) rfl (rfl) rfl ?_ | (refine uA rfl ?_ ?_ <;> (try (show (_ : Nat) * _ ≤ _; dsimp only))) | ((first | refine AOps.splitT rfl rfl rfl asm (fun h => ?_) | refine AOps.splitF rfl rfl rfl asm (fun h => ?_) | refine AOps.split rfl rfl rfl (fun h => ?_) (fun h => ?_)) <;> (fail_if_success (cases h; done)) <;> rw [h]))
      all_goals first | exact Wk.refl _ | exact wk_bad rfl rfl | exact wk_nil2
  · obtain ⟨rfl, rfl⟩ := cFits_nil hf rfl
    clear hf
    rcases s with _ | ⟨⟨T, us⟩, _ | ⟨⟨U, vs⟩, _ | ⟨⟨W, qs⟩, q⟩⟩⟩
    · skip
      have hk := ckinds_calls ([]) [0, 9, 13]
      rw [show kOk ([]) [0, 9, 13] = false from by (simp [kOk_c, kOk_n, kOk_end]) <;> assumption] at hk
      rw [show cItems 63 (cCodes ([])) ([]) ([]) = cBad 5 from by simp [cItems, tyT, tyArg, tyArgs, List.getD_cons_zero, List.getD_cons_succ, cCode]]
      rw [encCR_bad (by decide)]
      refine QCalls.of Tryd.func36 rfl (fun args w => Tryd.call36 args w) (Nat.le_of_ble_eq_true rfl) [(0, .c (encNd (.mk 2 nN 63 nS ([])))), (1, .c (.sl 2 (encTys ([])))), (2, .c (.sl 2 (encTys ([]))))] rfl fun β hβ => ?_; have hf := Tryd.func36
      repeat' (first | refine st ?_ | (refine AK.condS rfl (fun h => ?_) (fun h => ?_) <;> first | (cases h; done) | rw [h] | skip) | refine uW hf rfl rfl ?_ | refine uC rfl hk ?_ | refine uI rfl (0) rfl (rfl) rfl ?_ | refine uI rfl (1) rfl (rfl) rfl ?_ | refine uI rfl (2) rfl (rfl) rfl ?_ | (refine uA rfl ?_ ?_ <;> (try (show (_ : Nat) * _ ≤ _; dsimp only))) | ((first | refine AOps.splitT rfl rfl rfl asm (fun h => ?_) | refine AOps.splitF rfl rfl rfl asm (fun h => ?_) | refine AOps.split rfl rfl rfl (fun h => ?_) (fun h => ?_)) <;> (fail_if_success (cases h; done)) <;> rw [h]))
      all_goals first | exact Wk.refl _ | exact wk_bad rfl rfl | exact wk_nil2
    · skip
      have hk := ckinds_calls ([.mk T us]) [0, 9, 13]
      rw [show kOk ([.mk T us]) [0, 9, 13] = false from by (simp [kOk_c, kOk_n, kOk_end]) <;> assumption] at hk
      rw [show cItems 63 (cCodes ([])) ([]) ([.mk T us]) = cBad 5 from by simp [cItems, tyT, tyArg, tyArgs, List.getD_cons_zero, List.getD_cons_succ, cCode]]
      rw [encCR_bad (by decide)]
      refine QCalls.of Tryd.func36 rfl (fun args w => Tryd.call36 args w) (Nat.le_of_ble_eq_true rfl) [(0, .c (encNd (.mk 2 nN 63 nS ([])))), (1, .c (.sl 2 (encTys ([])))), (2, .c (.sl 2 (encTys ([.mk T us]))))] rfl fun β hβ => ?_; have hf := Tryd.func36
      repeat' (first | refine st ?_ | (refine AK.condS rfl (fun h => ?_) (fun h => ?_) <;> first | (cases h; done) | rw [h] | skip) | refine uW hf rfl rfl ?_ | refine uC rfl hk ?_ | refine uI rfl (0) rfl (rfl) rfl ?_ | refine uI rfl (1) rfl (rfl) rfl ?_ | refine uI rfl (2) rfl (rfl) rfl ?_ | (refine uA rfl ?_ ?_ <;> (try (show (_ : Nat) * _ ≤ _; dsimp only))) | ((first | refine AOps.splitT rfl rfl rfl asm (fun h => ?_) | refine AOps.splitF rfl rfl rfl asm (fun h => ?_) | refine AOps.split rfl rfl rfl (fun h => ?_) (fun h => ?_)) <;> (fail_if_success (cases h; done)) <;> rw [h]))
      all_goals first | exact Wk.refl _ | exact wk_bad rfl rfl | exact wk_nil2
    · skip
      have hk := ckinds_calls ([.mk T us, .mk U vs]) [0, 9, 13]
      rw [show kOk ([.mk T us, .mk U vs]) [0, 9, 13] = false from by (simp [kOk_c, kOk_n, kOk_end]) <;> assumption] at hk
      rw [show cItems 63 (cCodes ([])) ([]) ([.mk T us, .mk U vs]) = cBad 5 from by simp [cItems, tyT, tyArg, tyArgs, List.getD_cons_zero, List.getD_cons_succ, cCode]]
      rw [encCR_bad (by decide)]
      refine QCalls.of Tryd.func36 rfl (fun args w => Tryd.call36 args w) (Nat.le_of_ble_eq_true rfl) [(0, .c (encNd (.mk 2 nN 63 nS ([])))), (1, .c (.sl 2 (encTys ([])))), (2, .c (.sl 2 (encTys ([.mk T us, .mk U vs]))))] rfl fun β hβ => ?_; have hf := Tryd.func36
      repeat' (first | refine st ?_ | (refine AK.condS rfl (fun h => ?_) (fun h => ?_) <;> first | (cases h; done) | rw [h] | skip) | refine uW hf rfl rfl ?_ | refine uC rfl hk ?_ | refine uI rfl (0) rfl (rfl) rfl ?_ | refine uI rfl (1) rfl (rfl) rfl ?_ | refine uI rfl (2) rfl (rfl) rfl ?_ | (refine uA rfl ?_ ?_ <;> (try (show (_ : Nat) * _ ≤ _; dsimp only))) | ((first | refine AOps.splitT rfl rfl rfl asm (fun h => ?_) | refine AOps.splitF rfl rfl rfl asm (fun h => ?_) | refine AOps.split rfl rfl rfl (fun h => ?_) (fun h => ?_)) <;> (fail_if_success (cases h; done)) <;> rw [h]))
      all_goals first | exact Wk.refl _ | exact wk_bad rfl rfl | exact wk_nil2
    by_cases hU : U = 9 ∧ W = 13
    · obtain ⟨rfl, rfl⟩ := hU
      obtain ⟨⟨X, zs⟩, ⟨Y, ys⟩, rfl, hx, hy⟩ := tyOk_two (hs (.mk 13 qs) (by simp)) rfl
      obtain ⟨⟨Z, os⟩, rfl, hz⟩ := tyOk_one (hs (.mk 9 vs) (by simp)) rfl
      have hk := ckinds_calls (.mk T us :: .mk 9 [.mk Z os] :: .mk 13 [.mk X zs, .mk Y ys] :: q) [0, 9, 13]
      rw [show kOk (.mk T us :: .mk 9 [.mk Z os] :: .mk 13 [.mk X zs, .mk Y ys] :: q) [0, 9, 13] = true from by (simp [kOk_c, kOk_n, kOk_end]) <;> assumption] at hk
      have hz2 := hz.2
      have h1 := Same_calls (.mk T us) (.mk X zs) (by have := (hs (.mk T us) (by simp)).2; omega)
      have h2 := Same_calls (.mk Z os) (.mk Y ys) (by omega)
      cases g1 : tySame (.mk T us) (.mk X zs)
      · rw [g1] at h1
        rw [show cItems 63 (cCodes ([])) ([]) (.mk T us :: .mk 9 [.mk Z os] :: .mk 13 [.mk X zs, .mk Y ys] :: q) = cBad 5 from by simp [cItems, tyT, tyArg, tyArgs, List.getD_cons_zero, List.getD_cons_succ, cCode, g1]]
        rw [encCR_bad (by decide)]
        refine QCalls.of Tryd.func36 rfl (fun args w => Tryd.call36 args w) (Nat.le_of_ble_eq_true rfl) [(0, .c (encNd (.mk 2 nN 63 nS ([])))), (1, .c (.sl 2 (encTys ([])))), (2, .c (.sl 2 (encTys (.mk T us :: .mk 9 [.mk Z os] :: .mk 13 [.mk X zs, .mk Y ys] :: q))))] rfl fun β hβ => ?_; have hf := Tryd.func36
        repeat' (first | refine st ?_ | (refine AK.condS rfl (fun h => ?_) (fun h => ?_) <;> first | (cases h; done) | rw [h] | skip) | refine uW hf rfl rfl ?_ | refine uC rfl hk ?_ | refine uC rfl h1 ?_ | refine uI rfl (0) rfl (rfl) rfl ?_ | refine uI rfl (1) rfl (rfl) rfl ?_ | refine uI rfl (2) rfl (rfl) rfl ?_ | (refine uA rfl ?_ ?_ <;> (try (show (_ : Nat) * _ ≤ _; dsimp only))) | ((first | refine AOps.splitT rfl rfl rfl asm (fun h => ?_) | refine AOps.splitF rfl rfl rfl asm (fun h => ?_) | refine AOps.split rfl rfl rfl (fun h => ?_) (fun h => ?_)) <;> (fail_if_success (cases h; done)) <;> rw [h]))
        all_goals first | exact Wk.refl _ | exact wk_bad rfl rfl | exact wk_nil2
      cases g2 : tySame (.mk Z os) (.mk Y ys)
      · rw [g1] at h1; rw [g2] at h2
        rw [show cItems 63 (cCodes ([])) ([]) (.mk T us :: .mk 9 [.mk Z os] :: .mk 13 [.mk X zs, .mk Y ys] :: q) = cBad 5 from by simp [cItems, tyT, tyArg, tyArgs, List.getD_cons_zero, List.getD_cons_succ, cCode, g1, g2]]
        rw [encCR_bad (by decide)]
        refine QCalls.of Tryd.func36 rfl (fun args w => Tryd.call36 args w) (Nat.le_of_ble_eq_true rfl) [(0, .c (encNd (.mk 2 nN 63 nS ([])))), (1, .c (.sl 2 (encTys ([])))), (2, .c (.sl 2 (encTys (.mk T us :: .mk 9 [.mk Z os] :: .mk 13 [.mk X zs, .mk Y ys] :: q))))] rfl fun β hβ => ?_; have hf := Tryd.func36
        repeat' (first | refine st ?_ | (refine AK.condS rfl (fun h => ?_) (fun h => ?_) <;> first | (cases h; done) | rw [h] | skip) | refine uW hf rfl rfl ?_ | refine uC rfl hk ?_ | refine uC rfl h1 ?_ | refine uC rfl h2 ?_ | refine uI rfl (0) rfl (rfl) rfl ?_ | refine uI rfl (1) rfl (rfl) rfl ?_ | refine uI rfl (2) rfl (rfl) rfl ?_ | (refine uA rfl ?_ ?_ <;> (try (show (_ : Nat) * _ ≤ _; dsimp only))) | ((first | refine AOps.splitT rfl rfl rfl asm (fun h => ?_) | refine AOps.splitF rfl rfl rfl asm (fun h => ?_) | refine AOps.split rfl rfl rfl (fun h => ?_) (fun h => ?_)) <;> (fail_if_success (cases h; done)) <;> rw [h]))
        all_goals first | exact Wk.refl _ | exact wk_bad rfl rfl | exact wk_nil2
      · rw [g1] at h1; rw [g2] at h2
        have hp := cput0_calls (.mk 13 [.mk X zs, .mk Y ys] :: q)
        rw [encCR_ok'] at hp
        rw [show cItems 63 (cCodes ([])) ([]) (.mk T us :: .mk 9 [.mk Z os] :: .mk 13 [.mk X zs, .mk Y ys] :: q) = cOk (.mk 13 [.mk X zs, .mk Y ys] :: q) from by simp [cItems, tyT, tyArg, tyArgs, List.getD_cons_zero, List.getD_cons_succ, cCode, g1, g2]]
        rw [encCR_ok']
        refine QCalls.of Tryd.func36 rfl (fun args w => Tryd.call36 args w) (Nat.le_of_ble_eq_true rfl) [(0, .c (encNd (.mk 2 nN 63 nS ([])))), (1, .c (.sl 2 (encTys ([])))), (2, .c (.sl 2 (encTys (.mk T us :: .mk 9 [.mk Z os] :: .mk 13 [.mk X zs, .mk Y ys] :: q))))] rfl fun β hβ => ?_; have hf := Tryd.func36
        repeat' (first | refine st ?_ | (refine AK.condS rfl (fun h => ?_) (fun h => ?_) <;> first | (cases h; done) | rw [h] | skip) | refine uW hf rfl rfl ?_ | refine uC rfl hk ?_ | refine uC rfl h1 ?_ | refine uC rfl h2 ?_ | refine uC rfl hp ?_ | refine uI rfl (0) rfl (rfl) rfl ?_ | refine uI rfl (1) rfl (rfl) rfl ?_ | refine uI rfl (2) rfl (rfl) rfl ?_ | (refine uA rfl ?_ ?_ <;> (try (show (_ : Nat) * _ ≤ _; dsimp only))) | ((first | refine AOps.splitT rfl rfl rfl asm (fun h => ?_) | refine AOps.splitF rfl rfl rfl asm (fun h => ?_) | refine AOps.split rfl rfl rfl (fun h => ?_) (fun h => ?_)) <;> (fail_if_success (cases h; done)) <;> rw [h]))
        all_goals first | exact Wk.refl _ | exact wk_bad rfl rfl | exact wk_nil2
    · have hT2 : U = 9 → ¬ W = 13 := fun a b => hU ⟨a, b⟩
      have hk := ckinds_calls (.mk T us :: .mk U vs :: .mk W qs :: q) [0, 9, 13]
      rw [show kOk (.mk T us :: .mk U vs :: .mk W qs :: q) [0, 9, 13] = false from by (simp [kOk_c, kOk_n, kOk_end, hT2]) <;> assumption] at hk
      have hT3 : ¬ (U = 9 ∧ W = 13 ∧ tySame (.mk T us) (qs.getD 0 ty0) = true ∧ tySame (vs.getD 0 ty0) (qs.getD 1 ty0) = true) := fun h => hU ⟨h.1, h.2.1⟩
      rw [show cItems 63 (cCodes ([])) ([]) (.mk T us :: .mk U vs :: .mk W qs :: q) = cBad 5 from by unfold cItems; rw [if_neg (by decide), if_neg (by decide), if_neg (by decide), if_neg (by decide), if_pos rfl]; exact if_neg hT3, encCR_bad (by decide)]
      refine QCalls.of Tryd.func36 rfl (fun args w => Tryd.call36 args w) (Nat.le_of_ble_eq_true rfl) [(0, .c (encNd (.mk 2 nN 63 nS ([])))), (1, .c (.sl 2 (encTys ([])))), (2, .c (.sl 2 (encTys (.mk T us :: .mk U vs :: .mk W qs :: q))))] rfl fun β hβ => ?_; have hf := Tryd.func36
      repeat' (first | refine st ?_ | (refine AK.condS rfl (fun h => ?_) (fun h => ?_) <;> first | (cases h; done) | rw [h] | skip) | refine uW hf rfl rfl ?_ | refine uC rfl hk ?_ | refine uI rfl (0) rfl (rfl) rfl ?_ | refine uI rfl (1) rfl (rfl) rfl ?_ | refine uI rfl (2) rfl (rfl) rfl ?_ | (refine uA rfl ?_ ?_ <;> (try (show (_ : Nat) * _ ≤ _; dsimp only))) | ((first | refine AOps.splitT rfl rfl rfl asm (fun h => ?_) | refine AOps.splitF rfl rfl rfl asm (fun h => ?_) | refine AOps.split rfl rfl rfl (fun h => ?_) (fun h => ?_)) <;> (fail_if_success (cases h; done)) <;> rw [h]))
      all_goals first | exact Wk.refl _ | exact wk_bad rfl rfl
end Go.Proofs

-- WK
set_option linter.unusedVariables false
set_option linter.unusedSimpArgs false
namespace Go.Proofs
open Go.Abs
attribute [local irreducible] AK AOps QCalls ECalls tParse tComp tCopy tPack tStore tGood cRow cStep cCodes nMints tPar

set_option maxHeartbeats 0 in
theorem ccontrol_calls (P nN : Int) (nS : List UInt8) (args : List Nd) (types s : List Ty) (hP : 64 ≤ P ∧ P ≤ 68) (hf : cFits P args = some types) (hs : sOk s) (hl : s.length ≤ 9999999990) (hsz : ndsSize args ≤ 8589934593)
    (hrow : ∀ a ∈ args, ∀ s' : List Ty, sOk s' → s'.length ≤ s.length + 1 → QCalls Tryd.prog Tryd.X 12 [.sl 5 (encNds (ndArgs a)), .sl 2 (encTys s')] (encCX (cRow (ndArgs a) (s', false)))) :
    QCalls Tryd.prog Tryd.X 37 [encNd (.mk 2 nN P nS args), .sl 2 (encTys types), .sl 2 (encTys s)] (encCR (cControl P args (cCodes args) types s)) := by
  have hP2 : P = 64 ∨ P = 65 ∨ P = 66 ∨ P = 67 ∨ P = 68 := by omega
  clear hP
  rcases hP2 with rfl | rfl | rfl | rfl | rfl
  · obtain ⟨n1, p1, S1, xs, n2, p2, S2, ys, rfl, rfl⟩ := cFits_cc hf rfl
    clear hf
    rcases s with _ | ⟨⟨T, us⟩, r⟩
    · skip
      have hk := ckinds_calls ([]) [2]
      rw [show kOk ([]) [2] = false from by (simp [kOk_c, kOk_n, kOk_end]) <;> assumption] at hk
      rw [show cControl 64 ([.mk 3 n1 p1 S1 xs, .mk 3 n2 p2 S2 ys]) (cCodes ([.mk 3 n1 p1 S1 xs, .mk 3 n2 p2 S2 ys])) ([]) ([]) = cBad 5 from by simp [cControl, tyT, tyArg, tyArgs, List.getD_cons_zero, List.getD_cons_succ, cCode]]
      rw [encCR_bad (by decide)]
      refine QCalls.of Tryd.func37 rfl (fun args w => Tryd.call37 args w) (Nat.le_of_ble_eq_true rfl) [(0, .c (encNd (.mk 2 nN 64 nS ([.mk 3 n1 p1 S1 xs, .mk 3 n2 p2 S2 ys])))), (1, .c (.sl 2 (encTys ([])))), (2, .c (.sl 2 (encTys ([]))))] rfl fun β hβ => ?_; have hf := Tryd.func37
      repeat' (first | refine st ?_ | (refine AK.condS rfl (fun h => ?_) (fun h => ?_) <;> first | (cases h; done) | rw [h] | skip) | refine uW hf rfl rfl ?_ | refine uC rfl hk ?_ | refine uI rfl (0) rfl (rfl) rfl ?_ | refine uI rfl (1) rfl (rfl) rfl ?_ | refine uI rfl (2) rfl (rfl) rfl ?_ | ((first | refine AOps.splitT rfl rfl rfl asm (fun h => ?_) | refine AOps.splitF rfl rfl rfl asm (fun h => ?_) | refine AOps.split rfl rfl rfl (fun h => ?_) (fun h => ?_)) <;> (fail_if_success (cases h; done)) <;> rw [h]))
      all_goals first | exact Wk.refl _ | exact wk_bad rfl rfl | exact wk_nil2
    by_cases hT : T = 2
    · subst hT
      simp only [List.length_cons] at hl
      have zr := encTys_length r
      have hs2 := (sOk_cons hs).2
      have hk := ckinds_calls (.mk 2 us :: r) [2]
      rw [show kOk (.mk 2 us :: r) [2] = true from by (simp [kOk_c, kOk_n, kOk_end]) <;> assumption] at hk
      have w1 := hrow (.mk 3 n1 p1 S1 xs) (by simp) (r) hs2 (by simp only [List.length_cons]; omega)
      have o1 := cRow_ok xs (r, false) hs2
      have w2 := hrow (.mk 3 n2 p2 S2 ys) (by simp) (r) hs2 (by simp only [List.length_cons]; omega)
      have o2 := cRow_ok ys (r, false) hs2
      rw [show cControl 64 ([.mk 3 n1 p1 S1 xs, .mk 3 n2 p2 S2 ys]) (cCodes ([.mk 3 n1 p1 S1 xs, .mk 3 n2 p2 S2 ys])) ([]) (.mk 2 us :: r) = cMerge (cRow xs (r, false)) (cRow ys (r, false)) from by simp [cControl, tyT, tyArg, tyArgs, List.getD_cons_zero, List.getD_cons_succ, cCode, cCodes]]
      simp only [ndArgs] at w1
      generalize cRow xs (r, false) = r1 at w1 o1 ⊢
      obtain ⟨⟨t1, b1⟩, e1⟩ := r1
      simp only [List.length_cons] at o1
      simp only [ndArgs] at w2
      generalize cRow ys (r, false) = r2 at w2 o2 ⊢
      obtain ⟨⟨t2, b2⟩, e2⟩ := r2
      simp only [List.length_cons] at o2
      have hm := cmerge_calls ((t1, b1), e1) ((t2, b2), e2) o1.1 (by simp only; omega)
      generalize cMerge ((t1, b1), e1) ((t2, b2), e2) = rm at hm ⊢
      obtain ⟨⟨tm, bm⟩, em⟩ := rm
      refine QCalls.of Tryd.func37 rfl (fun args w => Tryd.call37 args w) (Nat.le_of_ble_eq_true rfl) [(0, .c (encNd (.mk 2 nN 64 nS ([.mk 3 n1 p1 S1 xs, .mk 3 n2 p2 S2 ys])))), (1, .c (.sl 2 (encTys ([])))), (2, .c (.sl 2 (encTys (.mk 2 us :: r))))] rfl fun β hβ => ?_; have hf := Tryd.func37
      repeat' (first | refine st ?_ | (refine AK.condS rfl (fun h => ?_) (fun h => ?_) <;> first | (cases h; done) | rw [h] | skip) | refine uW hf rfl rfl ?_ | refine uC rfl hk ?_ | refine AOps.calle kn rfl rfl (cloneTy_calls r (by omega)) rfl (by (repeat' (first | exact rfl | exact trivial | refine ⟨_, _, rfl, ?_, ?_⟩ | refine ⟨_, _, _, rfl, rfl, ?_, ?_⟩)); done) rfl rfl rfl rfl rfl rfl rfl rfl rfl rfl rfl rfl rfl rfl ?_ | refine uC rfl w1 ?_ | refine uC rfl w2 ?_ | refine uC rfl hm ?_ | refine uI rfl (0) rfl (rfl) rfl ?_ | refine uI rfl (1) rfl (rfl) rfl ?_ | refine uI rfl (2) rfl (rfl) rfl ?_ | ((first | refine AOps.splitT rfl rfl rfl asm (fun h => ?_) | refine AOps.splitF rfl rfl rfl asm (fun h => ?_) | refine AOps.split rfl rfl rfl (fun h => ?_) (fun h => ?_)) <;> (fail_if_success (cases h; done)) <;> rw [h]))
      all_goals first | exact Wk.refl _ | exact wk_bad rfl rfl | exact wk_X | (show _ ≤ _; simp only [encTys, List.length_cons, List.length_nil]; omega)
    · skip
      have hk := ckinds_calls (.mk T us :: r) [2]
      rw [show kOk (.mk T us :: r) [2] = false from by (simp [kOk_c, kOk_n, kOk_end, hT]) <;> assumption] at hk
      rw [show cControl 64 ([.mk 3 n1 p1 S1 xs, .mk 3 n2 p2 S2 ys]) (cCodes ([.mk 3 n1 p1 S1 xs, .mk 3 n2 p2 S2 ys])) ([]) (.mk T us :: r) = cBad 5 from by simp [cControl, tyT, tyArg, tyArgs, List.getD_cons_zero, List.getD_cons_succ, cCode, hT]]
      rw [encCR_bad (by decide)]
      refine QCalls.of Tryd.func37 rfl (fun args w => Tryd.call37 args w) (Nat.le_of_ble_eq_true rfl) [(0, .c (encNd (.mk 2 nN 64 nS ([.mk 3 n1 p1 S1 xs, .mk 3 n2 p2 S2 ys])))), (1, .c (.sl 2 (encTys ([])))), (2, .c (.sl 2 (encTys (.mk T us :: r))))] rfl fun β hβ => ?_; have hf := Tryd.func37
      repeat' (first | refine st ?_ | (refine AK.condS rfl (fun h => ?_) (fun h => ?_) <;> first | (cases h; done) | rw [h] | skip) | refine uW hf rfl rfl ?_ | refine uC rfl hk ?_ | refine uI rfl (0) rfl (rfl) rfl ?_ | refine uI rfl (1) rfl (rfl) rfl ?_ | refine uI rfl (2) rfl (rfl) rfl ?_ | ((first | refine AOps.splitT rfl rfl rfl asm (fun h => ?_) | refine AOps.splitF rfl rfl rfl asm (fun h => ?_) | refine AOps.split rfl rfl rfl (fun h => ?_) (fun h => ?_)) <;> (fail_if_success (cases h; done)) <;> rw [h]))
      all_goals first | exact Wk.refl _ | exact wk_bad rfl rfl | exact wk_nil2
  · obtain ⟨n1, p1, S1, xs, rfl, rfl⟩ := cFits_c hf rfl
    clear hf
    rcases s with _ | ⟨⟨T, us⟩, r⟩
    · skip
      have hk := ckinds_calls ([]) [2]
      rw [show kOk ([]) [2] = false from by (simp [kOk_c, kOk_n, kOk_end]) <;> assumption] at hk
      rw [show cControl 65 ([.mk 3 n1 p1 S1 xs]) (cCodes ([.mk 3 n1 p1 S1 xs])) ([]) ([]) = cBad 5 from by simp [cControl, tyT, tyArg, tyArgs, List.getD_cons_zero, List.getD_cons_succ, cCode]]
      rw [encCR_bad (by decide)]
      refine QCalls.of Tryd.func37 rfl (fun args w => Tryd.call37 args w) (Nat.le_of_ble_eq_true rfl) [(0, .c (encNd (.mk 2 nN 65 nS ([.mk 3 n1 p1 S1 xs])))), (1, .c (.sl 2 (encTys ([])))), (2, .c (.sl 2 (encTys ([]))))] rfl fun β hβ => ?_; have hf := Tryd.func37
      repeat' (first | refine st ?_ | (refine AK.condS rfl (fun h => ?_) (fun h => ?_) <;> first | (cases h; done) | rw [h] | skip) | refine uW hf rfl rfl ?_ | refine uC rfl hk ?_ | refine uI rfl (0) rfl (rfl) rfl ?_ | refine uI rfl (1) rfl (rfl) rfl ?_ | refine uI rfl (2) rfl (rfl) rfl ?_ | ((first | refine AOps.splitT rfl rfl rfl asm (fun h => ?_) | refine AOps.splitF rfl rfl rfl asm (fun h => ?_) | refine AOps.split rfl rfl rfl (fun h => ?_) (fun h => ?_)) <;> (fail_if_success (cases h; done)) <;> rw [h]))
      all_goals first | exact Wk.refl _ | exact wk_bad rfl rfl | exact wk_nil2
    by_cases hT : T = 2
    · subst hT
      simp only [List.length_cons] at hl
      have zr := encTys_length r
      have hs2 := (sOk_cons hs).2
      have hk := ckinds_calls (.mk 2 us :: r) [2]
      rw [show kOk (.mk 2 us :: r) [2] = true from by (simp [kOk_c, kOk_n, kOk_end]) <;> assumption] at hk
      rw [show cControl 65 ([.mk 3 n1 p1 S1 xs]) (cCodes ([.mk 3 n1 p1 S1 xs])) ([]) (.mk 2 us :: r) = (if (cMerge (cRow xs (r, false)) (cOk (.mk 2 us :: r))).2 ≠ 0 then cBad (cMerge (cRow xs (r, false)) (cOk (.mk 2 us :: r))).2 else cOk r) from by simp [cControl, cCodes, tyT, tyArg, tyArgs, List.getD_cons_zero, List.getD_cons_succ, cCode]]
      have w1 := hrow (.mk 3 n1 p1 S1 xs) (by simp) (r) hs2 (by simp only [List.length_cons, List.length_nil] at *; omega)
      have o1 := cRow_ok xs (r, false) hs2
      simp only [ndArgs] at w1
      generalize cRow xs (r, false) = r1 at w1 o1 ⊢
      obtain ⟨⟨t1, b1⟩, e1⟩ := r1
      simp only [List.length_cons, List.length_nil] at o1
      change QCalls _ _ _ _ (encCR (if (cMerge ((t1, b1), e1) ((.mk 2 us :: r, false), 0)).2 ≠ 0 then cBad (cMerge ((t1, b1), e1) ((.mk 2 us :: r, false), 0)).2 else _))
      have hm := cmerge_calls ((t1, b1), e1) ((.mk 2 us :: r, false), 0) o1.1 (by simp only; omega)
      generalize cMerge ((t1, b1), e1) ((.mk 2 us :: r, false), 0) = rm at hm ⊢
      obtain ⟨⟨tm, bm⟩, em⟩ := rm
      simp only
      by_cases he : em ≠ 0
      · rw [if_pos he, encCR_bad he]
        have en : (em != 0) = true := by simpa using he
        refine QCalls.of Tryd.func37 rfl (fun args w => Tryd.call37 args w) (Nat.le_of_ble_eq_true rfl) [(0, .c (encNd (.mk 2 nN 65 nS ([.mk 3 n1 p1 S1 xs])))), (1, .c (.sl 2 (encTys ([])))), (2, .c (.sl 2 (encTys (.mk 2 us :: r))))] rfl fun β hβ => ?_; have hf := Tryd.func37
        repeat' (first | refine st ?_ | (refine AK.condS rfl (fun h => ?_) (fun h => ?_) <;> first | (cases h; done) | rw [h] | skip) | refine uW hf rfl rfl ?_ | refine uC rfl hk ?_ | refine AOps.calle kn rfl rfl (cloneTy_calls r (by omega)) rfl (by (repeat' (first | exact rfl | exact trivial | refine ⟨_, _, rfl, ?_, ?_⟩ | refine ⟨_, _, _, rfl, rfl, ?_, ?_⟩)); done) rfl rfl rfl rfl rfl rfl rfl rfl rfl rfl rfl rfl rfl rfl ?_ | refine uC rfl w1 ?_ | refine uC rfl hm ?_ | refine uI rfl (0) rfl (rfl) rfl ?_ | refine uI rfl (1) rfl (rfl) rfl ?_ | refine uI rfl (2) rfl (rfl) rfl ?_ | ((first | refine AOps.splitT rfl rfl rfl asm (fun h => ?_) | refine AOps.splitF rfl rfl rfl asm (fun h => ?_) | refine AOps.split rfl rfl rfl (fun h => ?_) (fun h => ?_)) <;> (fail_if_success (cases h; done)) <;> rw [h]))
        all_goals first | exact Wk.refl _ | exact wk_bad rfl rfl | exact wk_X | (show _ ≤ _; simp only [encTys, List.length_cons, List.length_nil]; omega)
      · obtain rfl : em = 0 := by simpa using he
        rw [if_neg (by decide)]
        have hp := cput0_calls (r)
        rw [encCR_ok'] at hp
        rw [encCR_ok']
        refine QCalls.of Tryd.func37 rfl (fun args w => Tryd.call37 args w) (Nat.le_of_ble_eq_true rfl) [(0, .c (encNd (.mk 2 nN 65 nS ([.mk 3 n1 p1 S1 xs])))), (1, .c (.sl 2 (encTys ([])))), (2, .c (.sl 2 (encTys (.mk 2 us :: r))))] rfl fun β hβ => ?_; have hf := Tryd.func37
        repeat' (first | refine st ?_ | (refine AK.condS rfl (fun h => ?_) (fun h => ?_) <;> first | (cases h; done) | rw [h] | skip) | refine uW hf rfl rfl ?_ | refine uC rfl hk ?_ | refine AOps.calle kn rfl rfl (cloneTy_calls r (by omega)) rfl (by (repeat' (first | exact rfl | exact trivial | refine ⟨_, _, rfl, ?_, ?_⟩ | refine ⟨_, _, _, rfl, rfl, ?_, ?_⟩)); done) rfl rfl rfl rfl rfl rfl rfl rfl rfl rfl rfl rfl rfl rfl ?_ | refine uC rfl w1 ?_ | refine uC rfl hm ?_ | refine uC rfl hp ?_ | refine uI rfl (0) rfl (rfl) rfl ?_ | refine uI rfl (1) rfl (rfl) rfl ?_ | refine uI rfl (2) rfl (rfl) rfl ?_ | ((first | refine AOps.splitT rfl rfl rfl asm (fun h => ?_) | refine AOps.splitF rfl rfl rfl asm (fun h => ?_) | refine AOps.split rfl rfl rfl (fun h => ?_) (fun h => ?_)) <;> (fail_if_success (cases h; done)) <;> rw [h]))
        all_goals first | exact Wk.refl _ | exact wk_bad rfl rfl | exact wk_X | (show _ ≤ _; simp only [encTys, List.length_cons, List.length_nil]; omega)
    · skip
      have hk := ckinds_calls (.mk T us :: r) [2]
      rw [show kOk (.mk T us :: r) [2] = false from by (simp [kOk_c, kOk_n, kOk_end, hT]) <;> assumption] at hk
      rw [show cControl 65 ([.mk 3 n1 p1 S1 xs]) (cCodes ([.mk 3 n1 p1 S1 xs])) ([]) (.mk T us :: r) = cBad 5 from by simp [cControl, tyT, tyArg, tyArgs, List.getD_cons_zero, List.getD_cons_succ, cCode, hT]]
      rw [encCR_bad (by decide)]
      refine QCalls.of Tryd.func37 rfl (fun args w => Tryd.call37 args w) (Nat.le_of_ble_eq_true rfl) [(0, .c (encNd (.mk 2 nN 65 nS ([.mk 3 n1 p1 S1 xs])))), (1, .c (.sl 2 (encTys ([])))), (2, .c (.sl 2 (encTys (.mk T us :: r))))] rfl fun β hβ => ?_; have hf := Tryd.func37
      repeat' (first | refine st ?_ | (refine AK.condS rfl (fun h => ?_) (fun h => ?_) <;> first | (cases h; done) | rw [h] | skip) | refine uW hf rfl rfl ?_ | refine uC rfl hk ?_ | refine uI rfl (0) rfl (rfl) rfl ?_ | refine uI rfl (1) rfl (rfl) rfl ?_ | refine uI rfl (2) rfl (rfl) rfl ?_ | ((first | refine AOps.splitT rfl rfl rfl asm (fun h => ?_) | refine AOps.splitF rfl rfl rfl asm (fun h => ?_) | refine AOps.split rfl rfl rfl (fun h => ?_) (fun h => ?_)) <;> (fail_if_success (cases h; done)) <;> rw [h]))
      all_goals first | exact Wk.refl _ | exact wk_bad rfl rfl | exact wk_nil2
  · obtain ⟨x0, y0, n1, p1, S1, xs, t, u, rfl, rfl, ht, hu⟩ := cFits_ttc hf rfl
    clear hf
    have ht2 := ht.2
    obtain ⟨V, ws⟩ := t
    have hu2 := hu.2
    obtain ⟨V2, ws2⟩ := u
    have hmi := mints_calls xs (by simp only [ndsSize, ndSize] at hsz; omega)
    have zs := encTys_length s
    cases hb : nMints xs
    rotate_left
    · rw [hb] at hmi
      rw [show cControl 66 ([x0, y0, .mk 3 n1 p1 S1 xs]) (cCodes ([x0, y0, .mk 3 n1 p1 S1 xs])) ([.mk V ws, .mk V2 ws2]) s = cBad 5 from by simp [cControl, ndArgs, hb], encCR_bad (by decide)]
      refine QCalls.of Tryd.func37 rfl (fun args w => Tryd.call37 args w) (Nat.le_of_ble_eq_true rfl) [(0, .c (encNd (.mk 2 nN 66 nS ([x0, y0, .mk 3 n1 p1 S1 xs])))), (1, .c (.sl 2 (encTys ([.mk V ws, .mk V2 ws2])))), (2, .c (.sl 2 (encTys (s))))] rfl fun β hβ => ?_; have hf := Tryd.func37
      repeat' (first | refine st ?_ | (refine AK.condS rfl (fun h => ?_) (fun h => ?_) <;> first | (cases h; done) | rw [h] | skip) | refine uW hf rfl rfl ?_ | refine uC rfl hmi ?_ | refine uI rfl (0) rfl (rfl) rfl ?_ | refine uI rfl (1) rfl (rfl) rfl ?_ | refine uI rfl (2) rfl (rfl) rfl ?_ | ((first | refine AOps.splitT rfl rfl rfl asm (fun h => ?_) | refine AOps.splitF rfl rfl rfl asm (fun h => ?_) | refine AOps.split rfl rfl rfl (fun h => ?_) (fun h => ?_)) <;> (fail_if_success (cases h; done)) <;> rw [h]))
      all_goals first | exact Wk.refl _ | exact wk_bad rfl rfl | exact wk_X | (show _ ≤ _; simp only [encTys, List.length_cons, List.length_nil]; omega)
    · rw [hb] at hmi
      have hst : sOk [Ty.mk V ws] := sOk_put ht sOk_nil
      rw [show cControl 66 ([x0, y0, .mk 3 n1 p1 S1 xs]) (cCodes ([x0, y0, .mk 3 n1 p1 S1 xs])) ([.mk V ws, .mk V2 ws2]) s = (if (cMerge (cRow xs ([.mk V ws], false)) (cOk [.mk V2 ws2])).2 ≠ 0 then cBad (cMerge (cRow xs ([.mk V ws], false)) (cOk [.mk V2 ws2])).2 else cOk (.mk 14 ([.mk V ws, .mk V2 ws2]) :: s)) from by simp [cControl, cCodes_cons, ndArgs, hb, tyT, tyArg, tyArgs, List.getD_cons_zero, List.getD_cons_succ, cCode]]
      have w1 := hrow (.mk 3 n1 p1 S1 xs) (by simp) ([.mk V ws]) hst (by simp only [List.length_cons, List.length_nil] at *; omega)
      have o1 := cRow_ok xs ([.mk V ws], false) hst
      simp only [ndArgs] at w1
      generalize cRow xs ([.mk V ws], false) = r1 at w1 o1 ⊢
      obtain ⟨⟨t1, b1⟩, e1⟩ := r1
      simp only [List.length_cons, List.length_nil] at o1
      change QCalls _ _ _ _ (encCR (if (cMerge ((t1, b1), e1) (([.mk V2 ws2], false), 0)).2 ≠ 0 then cBad (cMerge ((t1, b1), e1) (([.mk V2 ws2], false), 0)).2 else _))
      have hm := cmerge_calls ((t1, b1), e1) (([.mk V2 ws2], false), 0) o1.1 (by simp only; omega)
      generalize cMerge ((t1, b1), e1) (([.mk V2 ws2], false), 0) = rm at hm ⊢
      obtain ⟨⟨tm, bm⟩, em⟩ := rm
      simp only
      by_cases he : em ≠ 0
      · rw [if_pos he, encCR_bad he]
        have en : (em != 0) = true := by simpa using he
        refine QCalls.of Tryd.func37 rfl (fun args w => Tryd.call37 args w) (Nat.le_of_ble_eq_true rfl) [(0, .c (encNd (.mk 2 nN 66 nS ([x0, y0, .mk 3 n1 p1 S1 xs])))), (1, .c (.sl 2 (encTys ([.mk V ws, .mk V2 ws2])))), (2, .c (.sl 2 (encTys (s))))] rfl fun β hβ => ?_; have hf := Tryd.func37
        repeat' (first | refine st ?_ | (refine AK.condS rfl (fun h => ?_) (fun h => ?_) <;> first | (cases h; done) | rw [h] | skip) | refine uW hf rfl rfl ?_ | refine uC rfl hmi ?_ | refine uC rfl w1 ?_ | refine uC rfl hm ?_ | refine uI rfl (0) rfl (rfl) rfl ?_ | refine uI rfl (1) rfl (rfl) rfl ?_ | refine uI rfl (2) rfl (rfl) rfl ?_ | ((first | refine AOps.splitT rfl rfl rfl asm (fun h => ?_) | refine AOps.splitF rfl rfl rfl asm (fun h => ?_) | refine AOps.split rfl rfl rfl (fun h => ?_) (fun h => ?_)) <;> (fail_if_success (cases h; done)) <;> rw [h]))
        all_goals first | exact Wk.refl _ | exact wk_bad rfl rfl | exact wk_X | (show _ ≤ _; simp only [encTys, List.length_cons, List.length_nil]; omega)
      · obtain rfl : em = 0 := by simpa using he
        rw [if_neg (by decide)]
        have hp := cput_calls (s) [.mk 14 [.mk V ws, .mk V2 ws2]]
        rw [encCR_ok'] at hp
        rw [encCR_ok']
        refine QCalls.of Tryd.func37 rfl (fun args w => Tryd.call37 args w) (Nat.le_of_ble_eq_true rfl) [(0, .c (encNd (.mk 2 nN 66 nS ([x0, y0, .mk 3 n1 p1 S1 xs])))), (1, .c (.sl 2 (encTys ([.mk V ws, .mk V2 ws2])))), (2, .c (.sl 2 (encTys (s))))] rfl fun β hβ => ?_; have hf := Tryd.func37
        repeat' (first | refine st ?_ | (refine AK.condS rfl (fun h => ?_) (fun h => ?_) <;> first | (cases h; done) | rw [h] | skip) | refine uW hf rfl rfl ?_ | refine uC rfl hmi ?_ | refine uC rfl w1 ?_ | refine uC rfl hm ?_ | refine uC rfl (one_calls 14 [.mk V ws, .mk V2 ws2]) ?_ | refine uC rfl hp ?_ | refine uI rfl (0) rfl (rfl) rfl ?_ | refine uI rfl (1) rfl (rfl) rfl ?_ | refine uI rfl (2) rfl (rfl) rfl ?_ | ((first | refine AOps.splitT rfl rfl rfl asm (fun h => ?_) | refine AOps.splitF rfl rfl rfl asm (fun h => ?_) | refine AOps.split rfl rfl rfl (fun h => ?_) (fun h => ?_)) <;> (fail_if_success (cases h; done)) <;> rw [h]))
        all_goals first | exact Wk.refl _ | exact wk_bad rfl rfl | exact wk_X | (show _ ≤ _; simp only [encTys, List.length_cons, List.length_nil]; omega)
  · obtain ⟨rfl, rfl⟩ := cFits_nil hf rfl
    clear hf
    rcases s with _ | ⟨⟨T, us⟩, _ | ⟨⟨U, vs⟩, q⟩⟩
    · skip
      have hk := ckinds_calls ([]) [0, 14]
      rw [show kOk ([]) [0, 14] = false from by (simp [kOk_c, kOk_n, kOk_end]) <;> assumption] at hk
      rw [show cControl 67 ([]) (cCodes ([])) ([]) ([]) = cBad 5 from by simp [cControl, tyT, tyArg, tyArgs, List.getD_cons_zero, List.getD_cons_succ, cCode]]
      rw [encCR_bad (by decide)]
      refine QCalls.of Tryd.func37 rfl (fun args w => Tryd.call37 args w) (Nat.le_of_ble_eq_true rfl) [(0, .c (encNd (.mk 2 nN 67 nS ([])))), (1, .c (.sl 2 (encTys ([])))), (2, .c (.sl 2 (encTys ([]))))] rfl fun β hβ => ?_; have hf := Tryd.func37
      repeat' (first | refine st ?_ | (refine AK.condS rfl (fun h => ?_) (fun h => ?_) <;> first | (cases h; done) | rw [h] | skip) | refine uW hf rfl rfl ?_ | refine uC rfl hk ?_ | refine uI rfl (0) rfl (rfl) rfl ?_ | refine uI rfl (1) rfl (rfl) rfl ?_ | refine uI rfl (2) rfl (rfl) rfl ?_ | ((first | refine AOps.splitT rfl rfl rfl asm (fun h => ?_) | refine AOps.splitF rfl rfl rfl asm (fun h => ?_) | refine AOps.split rfl rfl rfl (fun h => ?_) (fun h => ?_)) <;> (fail_if_success (cases h; done)) <;> rw [h]))
      all_goals first | exact Wk.refl _ | exact wk_bad rfl rfl | exact wk_nil2
    · skip
      have hk := ckinds_calls ([.mk T us]) [0, 14]
      rw [show kOk ([.mk T us]) [0, 14] = false from by (simp [kOk_c, kOk_n, kOk_end]) <;> assumption] at hk
      rw [show cControl 67 ([]) (cCodes ([])) ([]) ([.mk T us]) = cBad 5 from by simp [cControl, tyT, tyArg, tyArgs, List.getD_cons_zero, List.getD_cons_succ, cCode]]
      rw [encCR_bad (by decide)]
      refine QCalls.of Tryd.func37 rfl (fun args w => Tryd.call37 args w) (Nat.le_of_ble_eq_true rfl) [(0, .c (encNd (.mk 2 nN 67 nS ([])))), (1, .c (.sl 2 (encTys ([])))), (2, .c (.sl 2 (encTys ([.mk T us]))))] rfl fun β hβ => ?_; have hf := Tryd.func37
      repeat' (first | refine st ?_ | (refine AK.condS rfl (fun h => ?_) (fun h => ?_) <;> first | (cases h; done) | rw [h] | skip) | refine uW hf rfl rfl ?_ | refine uC rfl hk ?_ | refine uI rfl (0) rfl (rfl) rfl ?_ | refine uI rfl (1) rfl (rfl) rfl ?_ | refine uI rfl (2) rfl (rfl) rfl ?_ | ((first | refine AOps.splitT rfl rfl rfl asm (fun h => ?_) | refine AOps.splitF rfl rfl rfl asm (fun h => ?_) | refine AOps.split rfl rfl rfl (fun h => ?_) (fun h => ?_)) <;> (fail_if_success (cases h; done)) <;> rw [h]))
      all_goals first | exact Wk.refl _ | exact wk_bad rfl rfl | exact wk_nil2
    by_cases hU : U = 14
    · subst hU
      obtain ⟨⟨X, zs⟩, ⟨Y, ys⟩, rfl, hx, hy⟩ := tyOk_two (hs (.mk 14 vs) (by simp)) rfl
      have hk := ckinds_calls (.mk T us :: .mk 14 [.mk X zs, .mk Y ys] :: q) [0, 14]
      rw [show kOk (.mk T us :: .mk 14 [.mk X zs, .mk Y ys] :: q) [0, 14] = true from by (simp [kOk_c, kOk_n, kOk_end]) <;> assumption] at hk
      have h1 := Same_calls (.mk T us) (.mk X zs) (by have := (hs (.mk T us) (by simp)).2; omega)
      cases g1 : tySame (.mk T us) (.mk X zs)
      · rw [g1] at h1
        rw [show cControl 67 ([]) (cCodes ([])) ([]) (.mk T us :: .mk 14 [.mk X zs, .mk Y ys] :: q) = cBad 5 from by simp [cControl, tyT, tyArg, tyArgs, List.getD_cons_zero, List.getD_cons_succ, cCode, g1]]
        rw [encCR_bad (by decide)]
        refine QCalls.of Tryd.func37 rfl (fun args w => Tryd.call37 args w) (Nat.le_of_ble_eq_true rfl) [(0, .c (encNd (.mk 2 nN 67 nS ([])))), (1, .c (.sl 2 (encTys ([])))), (2, .c (.sl 2 (encTys (.mk T us :: .mk 14 [.mk X zs, .mk Y ys] :: q))))] rfl fun β hβ => ?_; have hf := Tryd.func37
        repeat' (first | refine st ?_ | (refine AK.condS rfl (fun h => ?_) (fun h => ?_) <;> first | (cases h; done) | rw [h] | skip) | refine uW hf rfl rfl ?_ | refine uC rfl hk ?_ | refine uC rfl h1 ?_ | refine uI rfl (0) rfl (rfl) rfl ?_ | refine uI rfl (1) rfl (rfl) rfl ?_ | refine uI rfl (2) rfl (rfl) rfl ?_ | ((first | refine AOps.splitT rfl rfl rfl asm (fun h => ?_) | refine AOps.splitF rfl rfl rfl asm (fun h => ?_) | refine AOps.split rfl rfl rfl (fun h => ?_) (fun h => ?_)) <;> (fail_if_success (cases h; done)) <;> rw [h]))
        all_goals first | exact Wk.refl _ | exact wk_bad rfl rfl | exact wk_nil2
      · rw [g1] at h1
        have hp := cput_calls (q) [.mk Y ys]
        rw [encCR_ok'] at hp
        rw [show cControl 67 ([]) (cCodes ([])) ([]) (.mk T us :: .mk 14 [.mk X zs, .mk Y ys] :: q) = cOk (.mk Y ys :: q) from by simp [cControl, tyT, tyArg, tyArgs, List.getD_cons_zero, List.getD_cons_succ, cCode, g1]]
        rw [encCR_ok']
        refine QCalls.of Tryd.func37 rfl (fun args w => Tryd.call37 args w) (Nat.le_of_ble_eq_true rfl) [(0, .c (encNd (.mk 2 nN 67 nS ([])))), (1, .c (.sl 2 (encTys ([])))), (2, .c (.sl 2 (encTys (.mk T us :: .mk 14 [.mk X zs, .mk Y ys] :: q))))] rfl fun β hβ => ?_; have hf := Tryd.func37
        repeat' (first | refine st ?_ | (refine AK.condS rfl (fun h => ?_) (fun h => ?_) <;> first | (cases h; done) | rw [h] | skip) | refine uW hf rfl rfl ?_ | refine uC rfl hk ?_ | refine uC rfl h1 ?_ | refine uC rfl hp ?_ | refine uI rfl (0) rfl (rfl) rfl ?_ | refine uI rfl (1) rfl (rfl) rfl ?_ | refine uI rfl (2) rfl (rfl) rfl ?_ | ((first | refine AOps.splitT rfl rfl rfl asm (fun h => ?_) | refine AOps.splitF rfl rfl rfl asm (fun h => ?_) | refine AOps.split rfl rfl rfl (fun h => ?_) (fun h => ?_)) <;> (fail_if_success (cases h; done)) <;> rw [h]))
        all_goals first | exact Wk.refl _ | exact wk_bad rfl rfl | exact wk_nil2
    · skip
      have hk := ckinds_calls (.mk T us :: .mk U vs :: q) [0, 14]
      rw [show kOk (.mk T us :: .mk U vs :: q) [0, 14] = false from by (simp [kOk_c, kOk_n, kOk_end, hU]) <;> assumption] at hk
      rw [show cControl 67 ([]) (cCodes ([])) ([]) (.mk T us :: .mk U vs :: q) = cBad 5 from by simp [cControl, tyT, tyArg, tyArgs, List.getD_cons_zero, List.getD_cons_succ, cCode, hU]]
      rw [encCR_bad (by decide)]
      refine QCalls.of Tryd.func37 rfl (fun args w => Tryd.call37 args w) (Nat.le_of_ble_eq_true rfl) [(0, .c (encNd (.mk 2 nN 67 nS ([])))), (1, .c (.sl 2 (encTys ([])))), (2, .c (.sl 2 (encTys (.mk T us :: .mk U vs :: q))))] rfl fun β hβ => ?_; have hf := Tryd.func37
      repeat' (first | refine st ?_ | (refine AK.condS rfl (fun h => ?_) (fun h => ?_) <;> first | (cases h; done) | rw [h] | skip) | refine uW hf rfl rfl ?_ | refine uC rfl hk ?_ | refine uI rfl (0) rfl (rfl) rfl ?_ | refine uI rfl (1) rfl (rfl) rfl ?_ | refine uI rfl (2) rfl (rfl) rfl ?_ | ((first | refine AOps.splitT rfl rfl rfl asm (fun h => ?_) | refine AOps.splitF rfl rfl rfl asm (fun h => ?_) | refine AOps.split rfl rfl rfl (fun h => ?_) (fun h => ?_)) <;> (fail_if_success (cases h; done)) <;> rw [h]))
      all_goals first | exact Wk.refl _ | exact wk_bad rfl rfl | exact wk_nil2
  · obtain ⟨n1, p1, S1, xs, rfl, rfl⟩ := cFits_c hf rfl
    clear hf
    rcases s with _ | ⟨⟨T, us⟩, r⟩
    · skip
      rw [show cControl 68 ([.mk 3 n1 p1 S1 xs]) (cCodes ([.mk 3 n1 p1 S1 xs])) ([]) ([]) = cBad 5 from by simp [cControl, tyT, tyArg, tyArgs, List.getD_cons_zero, List.getD_cons_succ, cCode]]
      rw [encCR_bad (by decide)]
      refine QCalls.of Tryd.func37 rfl (fun args w => Tryd.call37 args w) (Nat.le_of_ble_eq_true rfl) [(0, .c (encNd (.mk 2 nN 68 nS ([.mk 3 n1 p1 S1 xs])))), (1, .c (.sl 2 (encTys ([])))), (2, .c (.sl 2 (encTys ([]))))] rfl fun β hβ => ?_; have hf := Tryd.func37
      repeat' (first | refine st ?_ | (refine AK.condS rfl (fun h => ?_) (fun h => ?_) <;> first | (cases h; done) | rw [h] | skip) | refine uW hf rfl rfl ?_ | refine uI rfl (0) rfl (rfl) rfl ?_ | refine uI rfl (1) rfl (rfl) rfl ?_ | refine uI rfl (2) rfl (rfl) rfl ?_ | ((first | refine AOps.splitT rfl rfl rfl asm (fun h => ?_) | refine AOps.splitF rfl rfl rfl asm (fun h => ?_) | refine AOps.split rfl rfl rfl (fun h => ?_) (fun h => ?_)) <;> (fail_if_success (cases h; done)) <;> rw [h]))
      all_goals first | exact Wk.refl _ | exact wk_bad rfl rfl | exact wk_nil2
    have hk := len_gt (encTys (.mk T us :: r)) 0 (by simp only [encTys, List.length_cons]; omega)
    have hs2 := (sOk_cons hs).2
    have zr := encTys_length r
    simp only [List.length_cons] at hl
    rw [show cControl 68 ([.mk 3 n1 p1 S1 xs]) (cCodes ([.mk 3 n1 p1 S1 xs])) ([]) (.mk T us :: r) = (if (cRow xs (r, false)).2 ≠ 0 then cBad (cRow xs (r, false)).2 else if (cRow xs (r, false)).1.2 = true then cBad 1 else cOk (.mk T us :: (cRow xs (r, false)).1.1)) from by simp [cControl, cCodes, tyT, tyArg, tyArgs, List.getD_cons_zero, List.getD_cons_succ, cCode]]
    have w1 := hrow (.mk 3 n1 p1 S1 xs) (by simp) (r) hs2 (by simp only [List.length_cons, List.length_nil] at *; omega)
    have o1 := cRow_ok xs (r, false) hs2
    simp only [ndArgs] at w1
    generalize cRow xs (r, false) = r1 at w1 o1 ⊢
    obtain ⟨⟨t1, b1⟩, e1⟩ := r1
    simp only [List.length_cons, List.length_nil] at o1
    simp only
    by_cases he : e1 ≠ 0
    · rw [if_pos he, encCR_bad he]
      have en : (e1 != 0) = true := by simpa using he
      refine QCalls.of Tryd.func37 rfl (fun args w => Tryd.call37 args w) (Nat.le_of_ble_eq_true rfl) [(0, .c (encNd (.mk 2 nN 68 nS ([.mk 3 n1 p1 S1 xs])))), (1, .c (.sl 2 (encTys ([])))), (2, .c (.sl 2 (encTys (.mk T us :: r))))] rfl fun β hβ => ?_; have hf := Tryd.func37
      repeat' (first | refine st ?_ | (refine AK.condS rfl (fun h => ?_) (fun h => ?_) <;> first | (cases h; done) | rw [h] | skip) | refine uW hf rfl rfl ?_ | refine AOps.calle kn rfl rfl (cloneTy_calls r (by omega)) rfl (by (repeat' (first | exact rfl | exact trivial | refine ⟨_, _, rfl, ?_, ?_⟩ | refine ⟨_, _, _, rfl, rfl, ?_, ?_⟩)); done) rfl rfl rfl rfl rfl rfl rfl rfl rfl rfl rfl rfl rfl rfl ?_ | refine uC rfl w1 ?_ | refine uI rfl (0) rfl (rfl) rfl ?_ | refine uI rfl (1) rfl (rfl) rfl ?_ | refine uI rfl (2) rfl (rfl) rfl ?_ | ((first | refine AOps.splitT rfl rfl rfl asm (fun h => ?_) | refine AOps.splitF rfl rfl rfl asm (fun h => ?_) | refine AOps.split rfl rfl rfl (fun h => ?_) (fun h => ?_)) <;> (fail_if_success (cases h; done)) <;> rw [h]))
      all_goals first | exact Wk.refl _ | exact wk_bad rfl rfl | exact wk_X | (show _ ≤ _; simp only [encTys, List.length_cons, List.length_nil]; omega)
    obtain rfl : e1 = 0 := by simpa using he
    rw [if_neg (by decide)]
    cases b1
    · rw [if_neg (by decide)]
      have hp := cput_calls (t1) [.mk T us]
      rw [encCR_ok'] at hp
      rw [encCR_ok']
      refine QCalls.of Tryd.func37 rfl (fun args w => Tryd.call37 args w) (Nat.le_of_ble_eq_true rfl) [(0, .c (encNd (.mk 2 nN 68 nS ([.mk 3 n1 p1 S1 xs])))), (1, .c (.sl 2 (encTys ([])))), (2, .c (.sl 2 (encTys (.mk T us :: r))))] rfl fun β hβ => ?_; have hf := Tryd.func37
      repeat' (first | refine st ?_ | (refine AK.condS rfl (fun h => ?_) (fun h => ?_) <;> first | (cases h; done) | rw [h] | skip) | refine uW hf rfl rfl ?_ | refine AOps.calle kn rfl rfl (cloneTy_calls r (by omega)) rfl (by (repeat' (first | exact rfl | exact trivial | refine ⟨_, _, rfl, ?_, ?_⟩ | refine ⟨_, _, _, rfl, rfl, ?_, ?_⟩)); done) rfl rfl rfl rfl rfl rfl rfl rfl rfl rfl rfl rfl rfl rfl ?_ | refine uC rfl w1 ?_ | refine uC rfl hp ?_ | refine uI rfl (0) rfl (rfl) rfl ?_ | refine uI rfl (1) rfl (rfl) rfl ?_ | refine uI rfl (2) rfl (rfl) rfl ?_ | ((first | refine AOps.splitT rfl rfl rfl asm (fun h => ?_) | refine AOps.splitF rfl rfl rfl asm (fun h => ?_) | refine AOps.split rfl rfl rfl (fun h => ?_) (fun h => ?_)) <;> (fail_if_success (cases h; done)) <;> rw [h]))
      all_goals first | exact Wk.refl _ | exact wk_bad rfl rfl | exact wk_X | (show _ ≤ _; simp only [encTys, List.length_cons, List.length_nil]; omega)
    · rw [if_pos rfl, encCR_bad (by decide)]
      refine QCalls.of Tryd.func37 rfl (fun args w => Tryd.call37 args w) (Nat.le_of_ble_eq_true rfl) [(0, .c (encNd (.mk 2 nN 68 nS ([.mk 3 n1 p1 S1 xs])))), (1, .c (.sl 2 (encTys ([])))), (2, .c (.sl 2 (encTys (.mk T us :: r))))] rfl fun β hβ => ?_; have hf := Tryd.func37
      repeat' (first | refine st ?_ | (refine AK.condS rfl (fun h => ?_) (fun h => ?_) <;> first | (cases h; done) | rw [h] | skip) | refine uW hf rfl rfl ?_ | refine AOps.calle kn rfl rfl (cloneTy_calls r (by omega)) rfl (by (repeat' (first | exact rfl | exact trivial | refine ⟨_, _, rfl, ?_, ?_⟩ | refine ⟨_, _, _, rfl, rfl, ?_, ?_⟩)); done) rfl rfl rfl rfl rfl rfl rfl rfl rfl rfl rfl rfl rfl rfl ?_ | refine uC rfl w1 ?_ | refine uI rfl (0) rfl (rfl) rfl ?_ | refine uI rfl (1) rfl (rfl) rfl ?_ | refine uI rfl (2) rfl (rfl) rfl ?_ | ((first | refine AOps.splitT rfl rfl rfl asm (fun h => ?_) | refine AOps.splitF rfl rfl rfl asm (fun h => ?_) | refine AOps.split rfl rfl rfl (fun h => ?_) (fun h => ?_)) <;> (fail_if_success (cases h; done)) <;> rw [h]))
      all_goals first | exact Wk.refl _ | exact wk_bad rfl rfl | exact wk_X | (show _ ≤ _; simp only [encTys, List.length_cons, List.length_nil]; omega)
end Go.Proofs

-- WIDE
-- OLDASM
set_option linter.unusedVariables false
set_option linter.unusedSimpArgs false
namespace Go.Abs
theorem cmpBytes_eq : ∀ (a b : List UInt8), Lib.compareBytes a b = strCmp a b
  | [], [] => rfl
  | [], _ :: _ => rfl
  | _ :: _, [] => rfl
  | x :: a, y :: b => by
    have ih := cmpBytes_eq a b
    unfold strCmp at ih ⊢
    simp only [Lib.compareBytes, Op.bytesLess]
    by_cases h1 : x < y
    · simp [h1]
    · by_cases h2 : y < x
      · have hxy : (x == y) = false := by simp only [beq_eq_false_iff_ne]; rintro rfl; exact h1 h2
        have hyx : (y == x) = true ∨ (y == x) = false := by cases (y == x) <;> simp
        simp [h1, h2, hxy]
      · have e : x = y := UInt8.toNat_inj.1 (by rw [UInt8.lt_iff_toNat_lt] at h1 h2; omega)
        subst e
        simp [h1, ih]
section
variable {P : Program} {X : Ctx} {ops : Array Oper} {o : Oper} {rest : List Oper} {env : Env} {acc : List Fp} {Q : Env → St → List Fp → Prop} {σ : St}
theorem OpSem.cmpStr {fn : Func} {f : FuncId} (hf : P.funcs[f]? = some fn) (hname : (fn.name == "runtime.NumGoroutine") = false) (hb : fn.body.isNone = true) (hn : Extern.findNext fn = none) (he : Extern.find fn = some Extern.BytealgCompare.compare)
    {args : Array Operand} {ts : Array TypeId} (ho : o.op = .call { callee := .value (.func f), args := args, argTypes := ts }) {x y : Operand} (hargs : args = #[x, y]) {a b : List UInt8} (hx : aeval X env x = some (.c (.str a))) (hy : aeval X env y = some (.c (.str b))) :
    OpSem P X o env σ (.c (.int .i64 (strCmp a b))) (fun σ => σ) ⟨[], []⟩ := by
  subst hargs
  refine OpSem.val fun env1 w g act h1 himm hglob henv => ?_
  have hx' : aeval X env1 x = some (.c (.str a)) := by rw [h1 x (by rw [ho]; simp [Op.operands, Call.operands])]; exact hx
  have hy' : aeval X env1 y = some (.c (.str b)) := by rw [h1 y (by rw [ho]; simp [Op.operands, Call.operands])]; exact hy
  have rx := aeval_ok (a := act) henv hglob hx'
  have ry := aeval_ok (a := act) henv hglob hy'
  simp only [RelA, Rel] at rx ry
  refine ⟨.int .i64 (strCmp a b), ?_, by simp only [RelA, Rel]⟩
  have hrun : (callFunc f #[act.eval x, act.eval y]).run P w = .ok (.value (.int .i64 (strCmp a b))) w := by
    rw [run_callFunc_extern hf hname hb hn he, rx, ry, Lib.run_compareString]
    simp only [Result.andThen]
    rw [← cmpBytes_eq]
  obtain ⟨dst, op, type, pos, after, guard⟩ := o
  simp only at ho; subst ho
  simpa [execOp, resolve, Deferred.ofValue, invoke, Act.eval] using hrun
theorem AOps.cmpStr {fn : Func} {f : FuncId} (kn : List Nat) (hg : aguard ops.toList kn env o = some true) {args : Array Operand} {ts : Array TypeId} (ho : o.op = .call { callee := .value (.func f), args := args, argTypes := ts }) (hf : P.funcs[f]? = some fn)
    (hname : (fn.name == "runtime.NumGoroutine") = false) (hb : fn.body.isNone = true) (hn : Extern.findNext fn = none) (he : Extern.find fn = some Extern.BytealgCompare.compare)
    {d : Nat} (hd : o.dst = some d) {x y : Operand} (hargs : args = #[x, y]) {a b : List UInt8} (hx : aeval X env x = some (.c (.str a))) (hy : aeval X env y = some (.c (.str b)))
    (k : AOps P X ops rest ((d, .c (.int .i64 (strCmp a b))) :: env) σ (⟨[], []⟩ :: acc) Q) : AOps P X ops (o :: rest) env σ acc Q :=
  AOps.step (guard_in hg) (OpSem.cmpStr hf hname hb hn he ho hargs hx hy) (EffOk.id _) (by rw [hd]; exact k)
end
end Go.Abs
namespace Go.Proofs
open Go.Abs
theorem vls_at {l : List Vl} {i : Nat} {x : Vl} (h : l[i]? = some x) : (encVls l)[i]? = some (encVl x) := by rw [encVls_get, h]; rfl
theorem vls_lt {l : List Vl} {i : Nat} {x : Vl} (h : l[i]? = some x) : decide (((i : Nat) : Int) < (((encVls l).length : Nat) : Int)) = true := dec_lt (by have := lt_of_get h; rw [encVls_length]; omega)
theorem vls_end {l : List Vl} {i : Nat} (h : i = l.length) : decide (((i : Nat) : Int) < (((encVls l).length : Nat) : Int)) = false := dec_ge (by rw [encVls_length]; omega)
attribute [local irreducible] AK AOps QCalls ECalls vSize vSizes

theorem cmpString_calls (a b : List UInt8) : QCalls Tryd.prog Tryd.X 79 [.str a, .str b] (.int .i64 (strCmp a b)) := by
  refine QCalls.of Tryd.func79 rfl (fun args w => Tryd.call79 args w) (Nat.le_of_ble_eq_true rfl) [(0, .c (.str a)), (1, .c (.str b))] rfl fun β hβ => ?_; have hf := Tryd.func79
  repeat' (first | refine sto ?_ | refine uQ hf rfl rfl ?_ | refine AOps.cmpStr kn rfl rfl Tryd.func80 (by kernel_rfl) (by kernel_rfl) (by kernel_rfl) (by kernel_rfl) rfl rfl rfl rfl ?_)
  all_goals rfl
theorem strCompare_calls (a b : List UInt8) : QCalls Tryd.prog Tryd.X 74 [.str a, .str b] (.int .i64 (strCmp a b)) := by
  have h1 := cmpString_calls a b
  refine QCalls.of Tryd.func74 rfl (fun args w => Tryd.call74 args w) (Nat.le_of_ble_eq_true rfl) [(0, .c (.str a)), (1, .c (.str b))] rfl fun β hβ => ?_; have hf := Tryd.func74
  repeat' (first | refine sto ?_ | refine uQ hf rfl rfl ?_ | refine uC rfl h1 ?_)
  all_goals rfl
theorem sign_calls (a b : Int) : QCalls Tryd.prog Tryd.X 75 [.int .i64 a, .int .i64 b] (.int .i64 (sgn a b)) := by
  unfold sgn
  by_cases h1 : a < b
  · have c1 : decide (a < b) = true := decide_eq_true h1
    rw [if_pos h1]
    refine QCalls.of Tryd.func75 rfl (fun args w => Tryd.call75 args w) (Nat.le_of_ble_eq_true rfl) [(0, .c (.int .i64 a)), (1, .c (.int .i64 b))] rfl fun β hβ => ?_; have hf := Tryd.func75
    repeat' (first | refine sto ?_ | (refine AK.condS rfl (fun h => ?_) (fun h => ?_) <;> first | (cases h; done) | rw [h] | skip) | refine uQ hf rfl rfl ?_)
    all_goals rfl
  · have c1 : decide (a < b) = false := decide_eq_false h1
    rw [if_neg h1]
    by_cases h2 : a > b
    · have c2 : decide (a > b) = true := decide_eq_true h2
      rw [if_pos h2]
      refine QCalls.of Tryd.func75 rfl (fun args w => Tryd.call75 args w) (Nat.le_of_ble_eq_true rfl) [(0, .c (.int .i64 a)), (1, .c (.int .i64 b))] rfl fun β hβ => ?_; have hf := Tryd.func75
      repeat' (first | refine sto ?_ | (refine AK.condS rfl (fun h => ?_) (fun h => ?_) <;> first | (cases h; done) | rw [h] | skip) | refine uQ hf rfl rfl ?_)
      all_goals rfl
    · have c2 : decide (a > b) = false := decide_eq_false h2
      rw [if_neg h2]
      refine QCalls.of Tryd.func75 rfl (fun args w => Tryd.call75 args w) (Nat.le_of_ble_eq_true rfl) [(0, .c (.int .i64 a)), (1, .c (.int .i64 b))] rfl fun β hβ => ?_; have hf := Tryd.func75
      repeat' (first | refine sto ?_ | (refine AK.condS rfl (fun h => ?_) (fun h => ?_) <;> first | (cases h; done) | rw [h] | skip) | refine uQ hf rfl rfl ?_)
      all_goals rfl
set_option maxHeartbeats 1000000 in
theorem indexVl_calls (l : List Vl) (p : Vl → Bool) (f : FuncId) (caps : List CV) (hp : ∀ x ∈ l, QCalls Tryd.prog Tryd.X f (encVl x :: caps) (.bool (p x))) (hlen : l.length ≤ 1099511627776) :
    QCalls Tryd.prog Tryd.X 78 [.sl 7 (encVls l), .clo f caps] (.int .i64 (idxOf p l)) := by
  refine QCalls.of Tryd.func78 rfl (fun args w => Tryd.call78 args w) (Nat.le_of_ble_eq_true rfl) [(0, .c (.sl 7 (encVls l))), (1, .c (.clo f caps))] rfl fun β hβ => ?_; have hf := Tryd.func78
  refine AK.runP Tryd.hX Tryd.mixed 300 rfl ?_
  refine AK.loopE (α := Nat) (fun i => i ≤ l.length ∧ ∀ (j : Nat) x, j < i → l[j]? = some x → p x = false) (fun i => l.length - i)
    (fun i => [(8, .c (.int .i64 i)), (7, .c (.int .i64 (encVls l).length)), (0, .c (.sl 7 (encVls l))), (1, .c (.clo f caps))]) (fun _ => []) (fun _ => []) [] 0
    ⟨by omega, by intro j x h; omega⟩ ⟨.inl rfl, .inl rfl, .inl rfl, .inl rfl, trivial⟩ trivial trivial rfl rfl rfl ?_
  rintro i ⟨hi, hno⟩ ih
  repeat' (first | refine sto ?_ | (refine AK.condS rfl (fun h => ?_) (fun h => ?_) <;> first | (cases h; done) | rw [h] | skip) | refine uQ hf rfl rfl ?_)
  · have hlt : i < l.length := by simpa [encVls_length] using h
    obtain ⟨⟨a1, a2, a3, a4, a5, a6, a7⟩, hx⟩ : ∃ x, l[i]? = some x := ⟨l[i], by simp [hlt]⟩
    refine AOps.index Tryd.hX rfl rfl rfl rfl rfl rfl rfl rfl rfl rfl i rfl (by rw [encVls_get, hx]; rfl) rfl ?_
    repeat' (first | refine sto ?_ | (refine AK.condS rfl (fun h => ?_) (fun h => ?_) <;> first | (cases h; done) | rw [h] | skip) | refine uQ hf rfl rfl ?_ | refine uC rfl (hp ⟨a1, a2, a3, a4, a5, a6, a7⟩ (List.mem_of_getElem? hx)) ?_)
    · rw [idxOf_first p l i ⟨a1, a2, a3, a4, a5, a6, a7⟩ hx h hno]
    · have hp' := h
      have ih' := ih (i + 1) ⟨by omega, fun j x hj hjx => by
        by_cases hji : j = i
        · subst hji; rw [hx] at hjx; simp at hjx; subst hjx; exact hp'
        · exact hno j x (by omega) hjx⟩ (by omega)
      refine AK.again ih' ⟨.inl ?_, .inl rfl, .inl rfl, .inl rfl, trivial⟩ trivial trivial rfl rfl rfl
      rw [w64 (by omega) (by omega)]; rfl
  · have hge : l.length ≤ i := by simpa [encVls_length] using h
    rw [idxOf_none p l fun j y hy => hno j y (by have := (List.getElem?_eq_some_iff.1 hy).1; omega) hy]

theorem containsVl_calls (l : List Vl) (p : Vl → Bool) (f : FuncId) (caps : List CV) (hp : ∀ x ∈ l, QCalls Tryd.prog Tryd.X f (encVl x :: caps) (.bool (p x))) (hlen : l.length ≤ 1099511627776) :
    QCalls Tryd.prog Tryd.X 72 [.sl 7 (encVls l), .clo f caps] (.bool (l.any p)) := by
  refine QCalls.of Tryd.func72 rfl (fun args w => Tryd.call72 args w) (Nat.le_of_ble_eq_true rfl) [(0, .c (.sl 7 (encVls l))), (1, .c (.clo f caps))] rfl fun β hβ => ?_; have hf := Tryd.func72
  repeat' (first | refine sto ?_ | refine uQ hf rfl rfl ?_ | refine uC rfl (indexVl_calls l p f caps hp hlen) ?_)
  rw [idxOf_any]

end Go.Proofs

set_option linter.unusedVariables false
set_option linter.unusedSimpArgs false
namespace Go.Proofs
open Go.Abs

attribute [local irreducible] AK AOps QCalls

def nIn (n : Int) : Bool := decide (n ≥ -1152921504606846976) && decide (n ≤ 1152921504606846976)
def nAbs (n : Int) : Int × Int := if nIn n = true then (if n < 0 then -n else n, 0) else (0, 2)
def nBound (n : Int) : Int × Int := if nIn n = true then (n, 0) else (0, 11)
def nAdd (a b : Int) : Int × Int := if nIn a = true ∧ nIn b = true then nBound (a + b) else (0, 2)
def nSub (a b : Int) : Int × Int := if nIn a = true ∧ nIn b = true then nBound (a - b) else (0, 2)
def nMul (a b : Int) : Int × Int := if nIn a = true ∧ nIn b = true then nBound (a * b) else (0, 2)
def nEdiv (a b : Int) : Int × Int × Int := if nIn a = true ∧ nIn b = true then (if b = 0 then (0, 0, 6) else (a / b, a % b, 0)) else (0, 0, 2)

theorem In_calls (n : Int) : QCalls Tryd.prog Tryd.X 63 [.int .i64 n] (.bool (nIn n)) := by
  refine QCalls.of Tryd.func63 rfl (fun args w => Tryd.call63 args w) (Nat.le_of_ble_eq_true rfl) [(0, .c (.int .i64 n))] rfl fun β hβ => ?_; have hf := Tryd.func63
  repeat' (first | refine st ?_ | refine uQ hf rfl rfl ?_ | ((first | refine AOps.splitT rfl rfl rfl asm (fun h => ?_) | refine AOps.splitF rfl rfl rfl asm (fun h => ?_) | refine AOps.split rfl rfl rfl (fun h => ?_) (fun h => ?_)) <;> (fail_if_success (cases h; done)) <;> rw [h]))
  all_goals (simp_all [nIn]; try omega)

abbrev two (x : Int × Int) : CV := .tup [.int .i64 x.1, .int .i64 x.2]
abbrev three (x : Int × Int × Int) : CV := .tup [.int .i64 x.1, .int .i64 x.2.1, .int .i64 x.2.2]

end Go.Proofs
