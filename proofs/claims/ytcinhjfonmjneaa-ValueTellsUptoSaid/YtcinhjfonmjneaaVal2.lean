/- What Same, plain, address and compare of package value answer. -/
-- WIDE
-- OLDASM
import Derived.Test.YtcinhjfonmjneaaVal1
import Derived.Test.YtcinhjfonmjneaaNum1
set_option linter.unusedVariables false
set_option linter.unusedSimpArgs false
namespace Go.Proofs
open Go.Abs

theorem vHas_sub {k n a : Int} {s : List UInt8} {args : List Vl} {types : List Ty} {code : List Nd} {t : Ty} (h : vHas (.mk k n a s args types code) t = true) (hb : tBad t = false) :
    k = tyT t ∧ (k = 9 → args.length ≤ 1 ∧ ∀ x ∈ args, vHas x (tyArg t 0) = true ∧ tBad (tyArg t 0) = false) ∧ (k = 11 → args.length = 2 ∧ vHasRow args (tyArgs t) = true ∧ (tyArgs t).length = 2 ∧ tBads (tyArgs t) = false) ∧
      (k = 12 → 0 ≤ n ∧ n ≤ 1 ∧ args.length = 1 ∧ ∀ x ∈ args, vHas x (tyArg t n.toNat) = true ∧ tBad (tyArg t n.toNat) = false) := by
  obtain ⟨h1, h2, h3⟩ := vHas_head h
  have hcond : ¬ (k ≠ tyT t ∨ vPlain (.mk k n a s args types code) = false ∨ 200 < s.length) := by
    rintro (h | h | h)
    · exact h h1
    · rw [h2] at h; simp at h
    · omega
  simp only [vHas, if_neg hcond] at h
  obtain ⟨har, hbs⟩ := tBad_args hb
  rw [← h1] at har
  refine ⟨h1, ?_, ?_, ?_⟩
  · rintro rfl
    simp at h
    have hl : (tyArgs t).length = 1 := by have : arity 9 = 1 := by decide
                                          omega
    refine ⟨h.1.2, fun x hx => ⟨(vHasAll_iff _ _).1 h.2 x hx, tBads_mem hbs (tyArg_mem (by omega))⟩⟩
  · rintro rfl
    simp at h
    have hl : (tyArgs t).length = 2 := by have : arity 11 = 2 := by decide
                                          omega
    exact ⟨h.1.2, h.2, hl, hbs⟩
  · rintro rfl
    simp at h
    have hl : (tyArgs t).length = 2 := by have : arity 12 = 2 := by decide
                                          omega
    refine ⟨h.1.1, h.1.2.1, h.1.2.2, fun x hx => ⟨(vHasAll_iff _ _).1 h.2 x hx, tBads_mem hbs (tyArg_mem (by omega))⟩⟩
theorem cmp6 (n a : Int) (s : List UInt8) (args : List Vl) (types : List Ty) (code : List Nd) (k' n' a' : Int) (s' : List UInt8) (args' : List Vl) (types' : List Ty) (code' : List Nd) : vCmp (.mk 6 n a s args types code) (.mk k' n' a' s' args' types' code') = strCmp s s' := rfl
theorem cmp9 (n a : Int) (s : List UInt8) (args : List Vl) (types : List Ty) (code : List Nd) (k' n' a' : Int) (s' : List UInt8) (args' : List Vl) (types' : List Ty) (code' : List Nd) : vCmp (.mk 9 n a s args types code) (.mk k' n' a' s' args' types' code') = if sgn args.length args'.length = 0 then vCmps args args' else sgn args.length args'.length := rfl
theorem cmp11 (n a : Int) (s : List UInt8) (args : List Vl) (types : List Ty) (code : List Nd) (k' n' a' : Int) (s' : List UInt8) (args' : List Vl) (types' : List Ty) (code' : List Nd) : vCmp (.mk 11 n a s args types code) (.mk k' n' a' s' args' types' code') = vCmps args args' := rfl
theorem cmp12 (n a : Int) (s : List UInt8) (args : List Vl) (types : List Ty) (code : List Nd) (k' n' a' : Int) (s' : List UInt8) (args' : List Vl) (types' : List Ty) (code' : List Nd) : vCmp (.mk 12 n a s args types code) (.mk k' n' a' s' args' types' code') = if sgn n n' = 0 then vCmps args args' else sgn n n' := rfl
theorem cmpn {k : Int} (h1 : k ≠ 6) (h2 : k ≠ 9) (h3 : k ≠ 11) (h4 : k ≠ 12) (n a : Int) (s : List UInt8) (args : List Vl) (types : List Ty) (code : List Nd) (k' n' a' : Int) (s' : List UInt8) (args' : List Vl) (types' : List Ty) (code' : List Nd) : vCmp (.mk k n a s args types code) (.mk k' n' a' s' args' types' code') = sgn n n' := by
  simp only [vCmp, if_neg h1, if_neg h2, if_neg h3, if_neg h4]
theorem cmps_cons (x : Vl) (l : List Vl) (y : Vl) (r : List Vl) : vCmps (x :: l) (y :: r) = if vCmp x y = 0 then vCmps l r else vCmp x y := rfl
theorem cmps_nil (r : List Vl) : vCmps [] r = 0 := by cases r <;> rfl
attribute [local irreducible] AK AOps QCalls ECalls vCmp vCmps vHas vHasAll vHasRow vSame vsSame tySame tysSame ndSame ndsSame sgn strCmp vPlain

theorem address_calls (n : Int) : QCalls Try.prog Try.X 137 [.int .i64 n] (.bool (decide (0 ≤ n) && decide (n < 12))) := by
  refine QCalls.of Try.func137 rfl (fun args w => Try.call137 args w) (Nat.le_of_ble_eq_true rfl) [(0, .c (.int .i64 n))] rfl fun β hβ => ?_; have hf := Try.func137
  repeat' (first | refine AK.runP Try.hX Try.mixed 300 rfl ?_ | refine AK.condTe rfl asmo ?_ | refine AK.condFe rfl asmo ?_ | (refine AK.condS rfl (fun h => ?_) (fun h => ?_) <;> first | (cases h; done) | rw [h] | skip) | refine AK.retQ Try.hX hf rfl rfl ?_ | refine AK.region Try.mixed rfl ?_ | refine AOps.done ?_ | refine AOps.runS Try.hX kn rfl ?_ | refine AOps.box kn rfl rfl rfl rfl rfl rfl ?_ | refine AOps.alloc Try.hX kn rfl rfl rfl rfl rfl rfl rfl ?_ | refine AOps.store Try.hX kn rfl rfl rfl rfl rfl rfl rfl rfl rfl rfl rfl ?_ | refine AOps.buildSlice Try.hX kn rfl rfl rfl rfl rfl rfl rfl rfl rfl rfl rfl rfl ?_ | refine AOps.append Try.hX kn rfl rfl rfl rfl rfl rfl rfl rfl rfl rfl rfl rfl rfl rfl rfl rfl rfl rfl rfl rfl rfl ?_ ?_ | refine AOps.toStr Try.hX kn rfl rfl rfl rfl rfl rfl rfl rfl rfl rfl rfl (by first | exact rfl | exact byte1 _) rfl ?_ | refine AOps.buildArr Try.hX kn rfl rfl rfl rfl rfl rfl rfl rfl ?_ | refine AOps.indexArr Try.hX kn rfl rfl rfl rfl rfl rfl rfl rfl rfl rfl rfl rfl ?_ | refine AOps.runP1 Try.hX kn rfl rfl ?_ | (refine AOps.splitT rfl rfl rfl asmo (fun h => ?_) <;> (fail_if_success (cases h; done)) <;> rw [h]) | (refine AOps.splitF rfl rfl rfl asmo (fun h => ?_) <;> (fail_if_success (cases h; done)) <;> rw [h]) | (refine AOps.split rfl rfl rfl (fun h => ?_) (fun h => ?_) <;> (fail_if_success (cases h; done)) <;> rw [h]) | refine AOps.drawn (by kernel_rfl) ?_)
  all_goals
    show (_ : CV) = _
    clear hf
    simp_all

theorem plain_eq (k n a : Int) (s : List UInt8) (args : List Vl) (types : List Ty) (code : List Nd) : vPlain (.mk k n a s args types code) = (if k = 15 then decide (types.length = 0 ∧ code.length = 0 ∧ s = [])
    else if k = 8 then decide (types.length = 1 ∧ code.length = 0 ∧ s = [])
    else if k = 14 then decide (types.length = 2 ∧ a = 0 ∧ n = 0 ∧ s = [] ∧ args.length = 0)
    else if k = 6 then decide (types.length = 0 ∧ code.length = 0 ∧ a = 0 ∧ n = 0 ∧ args.length = 0)
    else decide (types.length = 0 ∧ code.length = 0 ∧ a = 0 ∧ s = [])) := by simp only [vPlain]

set_option maxHeartbeats 0 in
theorem plain_calls (v : Vl) : QCalls Try.prog Try.X 136 [encVl v] (.bool (vPlain v)) := by
  obtain ⟨k, n, a, s, args, types, code⟩ := v
  rw [plain_eq]
  by_cases c1 : k = 15
  · subst c1
    refine QCalls.of Try.func136 rfl (fun args w => Try.call136 args w) (Nat.le_of_ble_eq_true rfl) [(0, .c (encVl (.mk 15 n a s args types code)))] rfl fun β hβ => ?_; have hf := Try.func136
    repeat' (first | refine AK.runP Try.hX Try.mixed 300 rfl ?_ | refine AK.condTe rfl asmo ?_ | refine AK.condFe rfl asmo ?_ | (refine AK.condS rfl (fun h => ?_) (fun h => ?_) <;> first | (cases h; done) | rw [h] | skip) | refine AK.retQ Try.hX hf rfl rfl ?_ | refine AK.region Try.mixed rfl ?_ | refine AOps.done ?_ | refine AOps.runS Try.hX kn rfl ?_ | refine AOps.box kn rfl rfl rfl rfl rfl rfl ?_ | refine AOps.alloc Try.hX kn rfl rfl rfl rfl rfl rfl rfl ?_ | refine AOps.store Try.hX kn rfl rfl rfl rfl rfl rfl rfl rfl rfl rfl rfl ?_ | refine AOps.buildSlice Try.hX kn rfl rfl rfl rfl rfl rfl rfl rfl rfl rfl rfl rfl ?_ | refine AOps.append Try.hX kn rfl rfl rfl rfl rfl rfl rfl rfl rfl rfl rfl rfl rfl rfl rfl rfl rfl rfl rfl rfl rfl ?_ ?_ | refine AOps.toStr Try.hX kn rfl rfl rfl rfl rfl rfl rfl rfl rfl rfl rfl (by first | exact rfl | exact byte1 _) rfl ?_ | refine AOps.buildArr Try.hX kn rfl rfl rfl rfl rfl rfl rfl rfl ?_ | refine AOps.indexArr Try.hX kn rfl rfl rfl rfl rfl rfl rfl rfl rfl rfl rfl rfl ?_ | refine AOps.runP1 Try.hX kn rfl rfl ?_ | (refine AOps.splitT rfl rfl rfl asmo (fun h => ?_) <;> (fail_if_success (cases h; done)) <;> rw [h]) | (refine AOps.splitF rfl rfl rfl asmo (fun h => ?_) <;> (fail_if_success (cases h; done)) <;> rw [h]) | (refine AOps.split rfl rfl rfl (fun h => ?_) (fun h => ?_) <;> (fail_if_success (cases h; done)) <;> rw [h]) | refine AOps.drawn (by kernel_rfl) ?_)
    all_goals
      show (_ : CV) = _
      clear hf
      simp only [encTys_length, encNds_length, encVls_length, cond_true, cond_false] at *
      rcases types with _ | ⟨_, _ | ⟨_, _ | ⟨_, _⟩⟩⟩ <;> simp_all <;> (try omega) <;> rcases s with _ | ⟨_, _⟩ <;> rcases args with _ | ⟨_, _⟩ <;> rcases code with _ | ⟨_, _⟩ <;> simp_all <;> omega
  have e1 : (k == 15) = false := by simpa using c1
  by_cases c2 : k = 8
  · subst c2
    refine QCalls.of Try.func136 rfl (fun args w => Try.call136 args w) (Nat.le_of_ble_eq_true rfl) [(0, .c (encVl (.mk 8 n a s args types code)))] rfl fun β hβ => ?_; have hf := Try.func136
    repeat' (first | refine AK.runP Try.hX Try.mixed 300 rfl ?_ | refine AK.condTe rfl asmo ?_ | refine AK.condFe rfl asmo ?_ | (refine AK.condS rfl (fun h => ?_) (fun h => ?_) <;> first | (cases h; done) | rw [h] | skip) | refine AK.retQ Try.hX hf rfl rfl ?_ | refine AK.region Try.mixed rfl ?_ | refine AOps.done ?_ | refine AOps.runS Try.hX kn rfl ?_ | refine AOps.box kn rfl rfl rfl rfl rfl rfl ?_ | refine AOps.alloc Try.hX kn rfl rfl rfl rfl rfl rfl rfl ?_ | refine AOps.store Try.hX kn rfl rfl rfl rfl rfl rfl rfl rfl rfl rfl rfl ?_ | refine AOps.buildSlice Try.hX kn rfl rfl rfl rfl rfl rfl rfl rfl rfl rfl rfl rfl ?_ | refine AOps.append Try.hX kn rfl rfl rfl rfl rfl rfl rfl rfl rfl rfl rfl rfl rfl rfl rfl rfl rfl rfl rfl rfl rfl ?_ ?_ | refine AOps.toStr Try.hX kn rfl rfl rfl rfl rfl rfl rfl rfl rfl rfl rfl (by first | exact rfl | exact byte1 _) rfl ?_ | refine AOps.buildArr Try.hX kn rfl rfl rfl rfl rfl rfl rfl rfl ?_ | refine AOps.indexArr Try.hX kn rfl rfl rfl rfl rfl rfl rfl rfl rfl rfl rfl rfl ?_ | refine AOps.runP1 Try.hX kn rfl rfl ?_ | (refine AOps.splitT rfl rfl rfl asmo (fun h => ?_) <;> (fail_if_success (cases h; done)) <;> rw [h]) | (refine AOps.splitF rfl rfl rfl asmo (fun h => ?_) <;> (fail_if_success (cases h; done)) <;> rw [h]) | (refine AOps.split rfl rfl rfl (fun h => ?_) (fun h => ?_) <;> (fail_if_success (cases h; done)) <;> rw [h]) | refine AOps.drawn (by kernel_rfl) ?_)
    all_goals
      show (_ : CV) = _
      clear hf
      simp only [encTys_length, encNds_length, encVls_length, cond_true, cond_false] at *
      rcases types with _ | ⟨_, _ | ⟨_, _ | ⟨_, _⟩⟩⟩ <;> simp_all <;> (try omega) <;> rcases s with _ | ⟨_, _⟩ <;> rcases args with _ | ⟨_, _⟩ <;> rcases code with _ | ⟨_, _⟩ <;> simp_all <;> omega
  have e2 : (k == 8) = false := by simpa using c2
  by_cases c3 : k = 14
  · subst c3
    refine QCalls.of Try.func136 rfl (fun args w => Try.call136 args w) (Nat.le_of_ble_eq_true rfl) [(0, .c (encVl (.mk 14 n a s args types code)))] rfl fun β hβ => ?_; have hf := Try.func136
    repeat' (first | refine AK.runP Try.hX Try.mixed 300 rfl ?_ | refine AK.condTe rfl asmo ?_ | refine AK.condFe rfl asmo ?_ | (refine AK.condS rfl (fun h => ?_) (fun h => ?_) <;> first | (cases h; done) | rw [h] | skip) | refine AK.retQ Try.hX hf rfl rfl ?_ | refine AK.region Try.mixed rfl ?_ | refine AOps.done ?_ | refine AOps.runS Try.hX kn rfl ?_ | refine AOps.box kn rfl rfl rfl rfl rfl rfl ?_ | refine AOps.alloc Try.hX kn rfl rfl rfl rfl rfl rfl rfl ?_ | refine AOps.store Try.hX kn rfl rfl rfl rfl rfl rfl rfl rfl rfl rfl rfl ?_ | refine AOps.buildSlice Try.hX kn rfl rfl rfl rfl rfl rfl rfl rfl rfl rfl rfl rfl ?_ | refine AOps.append Try.hX kn rfl rfl rfl rfl rfl rfl rfl rfl rfl rfl rfl rfl rfl rfl rfl rfl rfl rfl rfl rfl rfl ?_ ?_ | refine AOps.toStr Try.hX kn rfl rfl rfl rfl rfl rfl rfl rfl rfl rfl rfl (by first | exact rfl | exact byte1 _) rfl ?_ | refine AOps.buildArr Try.hX kn rfl rfl rfl rfl rfl rfl rfl rfl ?_ | refine AOps.indexArr Try.hX kn rfl rfl rfl rfl rfl rfl rfl rfl rfl rfl rfl rfl ?_ | refine AOps.runP1 Try.hX kn rfl rfl ?_ | (refine AOps.splitT rfl rfl rfl asmo (fun h => ?_) <;> (fail_if_success (cases h; done)) <;> rw [h]) | (refine AOps.splitF rfl rfl rfl asmo (fun h => ?_) <;> (fail_if_success (cases h; done)) <;> rw [h]) | (refine AOps.split rfl rfl rfl (fun h => ?_) (fun h => ?_) <;> (fail_if_success (cases h; done)) <;> rw [h]) | refine AOps.drawn (by kernel_rfl) ?_)
    all_goals
      show (_ : CV) = _
      clear hf
      simp only [encTys_length, encNds_length, encVls_length, cond_true, cond_false] at *
      rcases types with _ | ⟨_, _ | ⟨_, _ | ⟨_, _⟩⟩⟩ <;> simp_all <;> (try omega) <;> rcases s with _ | ⟨_, _⟩ <;> rcases args with _ | ⟨_, _⟩ <;> rcases code with _ | ⟨_, _⟩ <;> simp_all <;> omega
  have e3 : (k == 14) = false := by simpa using c3
  by_cases c4 : k = 6
  · subst c4
    refine QCalls.of Try.func136 rfl (fun args w => Try.call136 args w) (Nat.le_of_ble_eq_true rfl) [(0, .c (encVl (.mk 6 n a s args types code)))] rfl fun β hβ => ?_; have hf := Try.func136
    repeat' (first | refine AK.runP Try.hX Try.mixed 300 rfl ?_ | refine AK.condTe rfl asmo ?_ | refine AK.condFe rfl asmo ?_ | (refine AK.condS rfl (fun h => ?_) (fun h => ?_) <;> first | (cases h; done) | rw [h] | skip) | refine AK.retQ Try.hX hf rfl rfl ?_ | refine AK.region Try.mixed rfl ?_ | refine AOps.done ?_ | refine AOps.runS Try.hX kn rfl ?_ | refine AOps.box kn rfl rfl rfl rfl rfl rfl ?_ | refine AOps.alloc Try.hX kn rfl rfl rfl rfl rfl rfl rfl ?_ | refine AOps.store Try.hX kn rfl rfl rfl rfl rfl rfl rfl rfl rfl rfl rfl ?_ | refine AOps.buildSlice Try.hX kn rfl rfl rfl rfl rfl rfl rfl rfl rfl rfl rfl rfl ?_ | refine AOps.append Try.hX kn rfl rfl rfl rfl rfl rfl rfl rfl rfl rfl rfl rfl rfl rfl rfl rfl rfl rfl rfl rfl rfl ?_ ?_ | refine AOps.toStr Try.hX kn rfl rfl rfl rfl rfl rfl rfl rfl rfl rfl rfl (by first | exact rfl | exact byte1 _) rfl ?_ | refine AOps.buildArr Try.hX kn rfl rfl rfl rfl rfl rfl rfl rfl ?_ | refine AOps.indexArr Try.hX kn rfl rfl rfl rfl rfl rfl rfl rfl rfl rfl rfl rfl ?_ | refine AOps.runP1 Try.hX kn rfl rfl ?_ | (refine AOps.splitT rfl rfl rfl asmo (fun h => ?_) <;> (fail_if_success (cases h; done)) <;> rw [h]) | (refine AOps.splitF rfl rfl rfl asmo (fun h => ?_) <;> (fail_if_success (cases h; done)) <;> rw [h]) | (refine AOps.split rfl rfl rfl (fun h => ?_) (fun h => ?_) <;> (fail_if_success (cases h; done)) <;> rw [h]) | refine AOps.drawn (by kernel_rfl) ?_)
    all_goals
      show (_ : CV) = _
      clear hf
      simp only [encTys_length, encNds_length, encVls_length, cond_true, cond_false] at *
      rcases types with _ | ⟨_, _ | ⟨_, _ | ⟨_, _⟩⟩⟩ <;> simp_all <;> (try omega) <;> rcases s with _ | ⟨_, _⟩ <;> rcases args with _ | ⟨_, _⟩ <;> rcases code with _ | ⟨_, _⟩ <;> simp_all <;> omega
  have e4 : (k == 6) = false := by simpa using c4
  refine QCalls.of Try.func136 rfl (fun args w => Try.call136 args w) (Nat.le_of_ble_eq_true rfl) [(0, .c (encVl (.mk k n a s args types code)))] rfl fun β hβ => ?_; have hf := Try.func136
  repeat' (first | refine AK.runP Try.hX Try.mixed 300 rfl ?_ | refine AK.condTe rfl asmo ?_ | refine AK.condFe rfl asmo ?_ | (refine AK.condS rfl (fun h => ?_) (fun h => ?_) <;> first | (cases h; done) | rw [h] | skip) | refine AK.retQ Try.hX hf rfl rfl ?_ | refine AK.region Try.mixed rfl ?_ | refine AOps.done ?_ | refine AOps.runS Try.hX kn rfl ?_ | refine AOps.box kn rfl rfl rfl rfl rfl rfl ?_ | refine AOps.alloc Try.hX kn rfl rfl rfl rfl rfl rfl rfl ?_ | refine AOps.store Try.hX kn rfl rfl rfl rfl rfl rfl rfl rfl rfl rfl rfl ?_ | refine AOps.buildSlice Try.hX kn rfl rfl rfl rfl rfl rfl rfl rfl rfl rfl rfl rfl ?_ | refine AOps.append Try.hX kn rfl rfl rfl rfl rfl rfl rfl rfl rfl rfl rfl rfl rfl rfl rfl rfl rfl rfl rfl rfl rfl ?_ ?_ | refine AOps.toStr Try.hX kn rfl rfl rfl rfl rfl rfl rfl rfl rfl rfl rfl (by first | exact rfl | exact byte1 _) rfl ?_ | refine AOps.buildArr Try.hX kn rfl rfl rfl rfl rfl rfl rfl rfl ?_ | refine AOps.indexArr Try.hX kn rfl rfl rfl rfl rfl rfl rfl rfl rfl rfl rfl rfl ?_ | refine AOps.runP1 Try.hX kn rfl rfl ?_ | (refine AOps.splitT rfl rfl rfl asmo (fun h => ?_) <;> (fail_if_success (cases h; done)) <;> rw [h]) | (refine AOps.splitF rfl rfl rfl asmo (fun h => ?_) <;> (fail_if_success (cases h; done)) <;> rw [h]) | (refine AOps.split rfl rfl rfl (fun h => ?_) (fun h => ?_) <;> (fail_if_success (cases h; done)) <;> rw [h]) | refine AOps.drawn (by kernel_rfl) ?_)
  all_goals
    show (_ : CV) = _
    clear hf
    simp only [encTys_length, encNds_length, encVls_length, cond_true, cond_false] at *
    rcases types with _ | ⟨_, _ | ⟨_, _ | ⟨_, _⟩⟩⟩ <;> simp_all <;> (try omega) <;> rcases s with _ | ⟨_, _⟩ <;> rcases args with _ | ⟨_, _⟩ <;> rcases code with _ | ⟨_, _⟩ <;> simp_all <;> omega

theorem len1 {l : List Vl} (h : l.length = 1) : ∃ x, l = [x] := by
  match l, h with
  | [x], _ => exact ⟨x, rfl⟩
theorem len2 {l : List Vl} (h : l.length = 2) : ∃ x y, l = [x, y] := by
  match l, h with
  | [x, y], _ => exact ⟨x, y, rfl⟩
theorem tlen2 {l : List Ty} (h : l.length = 2) : ∃ x y, l = [x, y] := by
  match l, h with
  | [x, y], _ => exact ⟨x, y, rfl⟩
theorem cmp_one (x y : Vl) : vCmps [x] [y] = vCmp x y := by rw [cmps_cons, cmps_nil]; split <;> simp_all
theorem cmp_two (x x' y y' : Vl) : vCmps [x, x'] [y, y'] = if vCmp x y = 0 then vCmp x' y' else vCmp x y := by rw [cmps_cons, cmp_one]

set_option maxHeartbeats 0 in
theorem compare_calls : ∀ (v w : Vl) (t : Ty), tBad t = false → vHas v t = true → vHas w t = true → vlSize v ≤ 1099511627776 → QCalls Try.prog Try.X 112 [encVl v, encVl w] (.int .i64 (vCmp v w))
  | .mk k n a s args types code, .mk k' n' a' s' args' types' code', t, hb, hv, hw, hsz => by
    simp only [vlSize] at hsz
    obtain ⟨p0, p9, p11, p12⟩ := vHas_sub hv hb
    obtain ⟨q0, q9, q11, q12⟩ := vHas_sub hw hb
    obtain rfl : k' = k := by rw [p0, q0]
    clear hv hw
    have hin : ∀ x ∈ args, ∀ y u, tBad u = false → vHas x u = true → vHas y u = true → QCalls Try.prog Try.X 112 [encVl x, encVl y] (.int .i64 (vCmp x y)) := fun x hx y u h1 h2 h3 => compare_calls x y u h1 h2 h3 (by have := vlsSize_mem hx; omega)
    by_cases c1 : k' = 6
    · subst c1
      rw [cmp6]
      have h1 := strCompare_calls s s'
      refine QCalls.of Try.func112 rfl (fun args w => Try.call112 args w) (Nat.le_of_ble_eq_true rfl) [(0, .c (encVl (.mk 6 n a s args types code))), (1, .c (encVl (.mk 6 n' a' s' args' types' code')))] rfl fun β hβ => ?_; have hf := Try.func112
      repeat' (first | refine AK.runP Try.hX Try.mixed 300 rfl ?_ | refine AK.condTe rfl asmo ?_ | refine AK.condFe rfl asmo ?_ | (refine AK.condS rfl (fun h => ?_) (fun h => ?_) <;> first | (cases h; done) | rw [h] | skip) | refine AK.retQ Try.hX hf rfl rfl ?_ | refine AK.region Try.mixed rfl ?_ | refine AOps.done ?_ | refine AOps.runS Try.hX kn rfl ?_ | refine AOps.callq kn rfl rfl rfl rfl (h1) ?_ | refine AOps.box kn rfl rfl rfl rfl rfl rfl ?_ | refine AOps.alloc Try.hX kn rfl rfl rfl rfl rfl rfl rfl ?_ | refine AOps.store Try.hX kn rfl rfl rfl rfl rfl rfl rfl rfl rfl rfl rfl ?_ | refine AOps.buildSlice Try.hX kn rfl rfl rfl rfl rfl rfl rfl rfl rfl rfl rfl rfl ?_ | refine AOps.append Try.hX kn rfl rfl rfl rfl rfl rfl rfl rfl rfl rfl rfl rfl rfl rfl rfl rfl rfl rfl rfl rfl rfl ?_ ?_ | refine AOps.toStr Try.hX kn rfl rfl rfl rfl rfl rfl rfl rfl rfl rfl rfl (by first | exact rfl | exact byte1 _) rfl ?_ | refine AOps.buildArr Try.hX kn rfl rfl rfl rfl rfl rfl rfl rfl ?_ | refine AOps.indexArr Try.hX kn rfl rfl rfl rfl rfl rfl rfl rfl rfl rfl rfl rfl ?_ | refine AOps.runP1 Try.hX kn rfl rfl ?_ | (refine AOps.splitT rfl rfl rfl asmo (fun h => ?_) <;> (fail_if_success (cases h; done)) <;> rw [h]) | (refine AOps.splitF rfl rfl rfl asmo (fun h => ?_) <;> (fail_if_success (cases h; done)) <;> rw [h]) | (refine AOps.split rfl rfl rfl (fun h => ?_) (fun h => ?_) <;> (fail_if_success (cases h; done)) <;> rw [h]) | refine AOps.drawn (by kernel_rfl) ?_)
      all_goals rfl
    by_cases c2 : k' = 9
    · subst c2
      rw [cmp9]
      have h1 := sign_calls (((encVls args).length : Nat) : Int) (((encVls args').length : Nat) : Int)
      by_cases e0 : sgn args.length args'.length = 0
      · rw [if_pos e0]
        rw [encVls_length, encVls_length, e0, ← encVls_length, ← encVls_length args'] at h1
        have hll := sgn_zero.1 e0
        by_cases hz : args.length = 0
        · have e5 : ((((encVls args).length : Nat) : Int) == 0) = true := by rw [encVls_length]; simpa using hz
          rw [List.length_eq_zero_iff.1 hz, cmps_nil]
          rw [List.length_eq_zero_iff.1 hz] at h1 e5
          refine QCalls.of Try.func112 rfl (fun args w => Try.call112 args w) (Nat.le_of_ble_eq_true rfl) [(0, .c (encVl (.mk 9 n a s [] types code))), (1, .c (encVl (.mk 9 n' a' s' args' types' code')))] rfl fun β hβ => ?_; have hf := Try.func112
          repeat' (first | refine AK.runP Try.hX Try.mixed 300 rfl ?_ | refine AK.condTe rfl asmo ?_ | refine AK.condFe rfl asmo ?_ | (refine AK.condS rfl (fun h => ?_) (fun h => ?_) <;> first | (cases h; done) | rw [h] | skip) | refine AK.retQ Try.hX hf rfl rfl ?_ | refine AK.region Try.mixed rfl ?_ | refine AOps.done ?_ | refine AOps.runS Try.hX kn rfl ?_ | refine AOps.callq kn rfl rfl rfl rfl (h1) ?_ | refine AOps.box kn rfl rfl rfl rfl rfl rfl ?_ | refine AOps.alloc Try.hX kn rfl rfl rfl rfl rfl rfl rfl ?_ | refine AOps.store Try.hX kn rfl rfl rfl rfl rfl rfl rfl rfl rfl rfl rfl ?_ | refine AOps.buildSlice Try.hX kn rfl rfl rfl rfl rfl rfl rfl rfl rfl rfl rfl rfl ?_ | refine AOps.append Try.hX kn rfl rfl rfl rfl rfl rfl rfl rfl rfl rfl rfl rfl rfl rfl rfl rfl rfl rfl rfl rfl rfl ?_ ?_ | refine AOps.toStr Try.hX kn rfl rfl rfl rfl rfl rfl rfl rfl rfl rfl rfl (by first | exact rfl | exact byte1 _) rfl ?_ | refine AOps.buildArr Try.hX kn rfl rfl rfl rfl rfl rfl rfl rfl ?_ | refine AOps.indexArr Try.hX kn rfl rfl rfl rfl rfl rfl rfl rfl rfl rfl rfl rfl ?_ | refine AOps.runP1 Try.hX kn rfl rfl ?_ | (refine AOps.splitT rfl rfl rfl asmo (fun h => ?_) <;> (fail_if_success (cases h; done)) <;> rw [h]) | (refine AOps.splitF rfl rfl rfl asmo (fun h => ?_) <;> (fail_if_success (cases h; done)) <;> rw [h]) | (refine AOps.split rfl rfl rfl (fun h => ?_) (fun h => ?_) <;> (fail_if_success (cases h; done)) <;> rw [h]) | refine AOps.drawn (by kernel_rfl) ?_)
          all_goals rfl
        · have e5 : ((((encVls args).length : Nat) : Int) == 0) = false := by rw [encVls_length]; simpa using hz
          obtain ⟨x, hA⟩ := len1 (show args.length = 1 by have := (p9 rfl).1; omega)
          obtain ⟨y, hB⟩ := len1 (show args'.length = 1 by have := (q9 rfl).1; omega)
          have hx := (p9 rfl).2 x (by rw [hA]; simp)
          have hy := (q9 rfl).2 y (by rw [hB]; simp)
          have h2 := hin x (by rw [hA]; simp) y (tyArg t 0) hx.2 hx.1 hy.1
          have g1 : args[0]? = some x := by rw [hA]; rfl
          have g2 : args'[0]? = some y := by rw [hB]; rfl
          have e3 : vCmps args args' = vCmp x y := by rw [hA, hB, cmp_one]
          rw [e3]
          obtain ⟨x1, x2, x3, x4, x5, x6, x7⟩ := x
          obtain ⟨y1, y2, y3, y4, y5, y6, y7⟩ := y
          refine QCalls.of Try.func112 rfl (fun args w => Try.call112 args w) (Nat.le_of_ble_eq_true rfl) [(0, .c (encVl (.mk 9 n a s args types code))), (1, .c (encVl (.mk 9 n' a' s' args' types' code')))] rfl fun β hβ => ?_; have hf := Try.func112
          repeat' (first | refine AK.runP Try.hX Try.mixed 300 rfl ?_ | refine AK.condTe rfl asmo ?_ | refine AK.condFe rfl asmo ?_ | (refine AK.condS rfl (fun h => ?_) (fun h => ?_) <;> first | (cases h; done) | rw [h] | skip) | refine AK.retQ Try.hX hf rfl rfl ?_ | refine AK.region Try.mixed rfl ?_ | refine AOps.done ?_ | refine AOps.runS Try.hX kn rfl ?_ | refine AOps.callq kn rfl rfl rfl rfl (h1) ?_ | refine AOps.callq kn rfl rfl rfl rfl (h2) ?_ | refine AOps.index Try.hX rfl rfl rfl rfl rfl rfl rfl rfl rfl rfl (0) rfl (vls_at g1) rfl ?_ | refine AOps.index Try.hX rfl rfl rfl rfl rfl rfl rfl rfl rfl rfl (0) rfl (vls_at g2) rfl ?_ | refine AOps.box kn rfl rfl rfl rfl rfl rfl ?_ | refine AOps.alloc Try.hX kn rfl rfl rfl rfl rfl rfl rfl ?_ | refine AOps.store Try.hX kn rfl rfl rfl rfl rfl rfl rfl rfl rfl rfl rfl ?_ | refine AOps.buildSlice Try.hX kn rfl rfl rfl rfl rfl rfl rfl rfl rfl rfl rfl rfl ?_ | refine AOps.append Try.hX kn rfl rfl rfl rfl rfl rfl rfl rfl rfl rfl rfl rfl rfl rfl rfl rfl rfl rfl rfl rfl rfl ?_ ?_ | refine AOps.toStr Try.hX kn rfl rfl rfl rfl rfl rfl rfl rfl rfl rfl rfl (by first | exact rfl | exact byte1 _) rfl ?_ | refine AOps.buildArr Try.hX kn rfl rfl rfl rfl rfl rfl rfl rfl ?_ | refine AOps.indexArr Try.hX kn rfl rfl rfl rfl rfl rfl rfl rfl rfl rfl rfl rfl ?_ | refine AOps.runP1 Try.hX kn rfl rfl ?_ | (refine AOps.splitT rfl rfl rfl asmo (fun h => ?_) <;> (fail_if_success (cases h; done)) <;> rw [h]) | (refine AOps.splitF rfl rfl rfl asmo (fun h => ?_) <;> (fail_if_success (cases h; done)) <;> rw [h]) | (refine AOps.split rfl rfl rfl (fun h => ?_) (fun h => ?_) <;> (fail_if_success (cases h; done)) <;> rw [h]) | refine AOps.drawn (by kernel_rfl) ?_)
          all_goals rfl
      · rw [if_neg e0]
        have e1 : (sgn args.length args'.length != 0) = true := by simpa using e0
        rw [← encVls_length, ← encVls_length args'] at e1 ⊢
        refine QCalls.of Try.func112 rfl (fun args w => Try.call112 args w) (Nat.le_of_ble_eq_true rfl) [(0, .c (encVl (.mk 9 n a s args types code))), (1, .c (encVl (.mk 9 n' a' s' args' types' code')))] rfl fun β hβ => ?_; have hf := Try.func112
        repeat' (first | refine AK.runP Try.hX Try.mixed 300 rfl ?_ | refine AK.condTe rfl asmo ?_ | refine AK.condFe rfl asmo ?_ | (refine AK.condS rfl (fun h => ?_) (fun h => ?_) <;> first | (cases h; done) | rw [h] | skip) | refine AK.retQ Try.hX hf rfl rfl ?_ | refine AK.region Try.mixed rfl ?_ | refine AOps.done ?_ | refine AOps.runS Try.hX kn rfl ?_ | refine AOps.callq kn rfl rfl rfl rfl (h1) ?_ | refine AOps.box kn rfl rfl rfl rfl rfl rfl ?_ | refine AOps.alloc Try.hX kn rfl rfl rfl rfl rfl rfl rfl ?_ | refine AOps.store Try.hX kn rfl rfl rfl rfl rfl rfl rfl rfl rfl rfl rfl ?_ | refine AOps.buildSlice Try.hX kn rfl rfl rfl rfl rfl rfl rfl rfl rfl rfl rfl rfl ?_ | refine AOps.append Try.hX kn rfl rfl rfl rfl rfl rfl rfl rfl rfl rfl rfl rfl rfl rfl rfl rfl rfl rfl rfl rfl rfl ?_ ?_ | refine AOps.toStr Try.hX kn rfl rfl rfl rfl rfl rfl rfl rfl rfl rfl rfl (by first | exact rfl | exact byte1 _) rfl ?_ | refine AOps.buildArr Try.hX kn rfl rfl rfl rfl rfl rfl rfl rfl ?_ | refine AOps.indexArr Try.hX kn rfl rfl rfl rfl rfl rfl rfl rfl rfl rfl rfl rfl ?_ | refine AOps.runP1 Try.hX kn rfl rfl ?_ | (refine AOps.splitT rfl rfl rfl asmo (fun h => ?_) <;> (fail_if_success (cases h; done)) <;> rw [h]) | (refine AOps.splitF rfl rfl rfl asmo (fun h => ?_) <;> (fail_if_success (cases h; done)) <;> rw [h]) | (refine AOps.split rfl rfl rfl (fun h => ?_) (fun h => ?_) <;> (fail_if_success (cases h; done)) <;> rw [h]) | refine AOps.drawn (by kernel_rfl) ?_)
        all_goals rfl
    by_cases c3 : k' = 11
    · subst c3
      rw [cmp11]
      obtain ⟨m1, m2, m3, m4⟩ := p11 rfl
      obtain ⟨r1, r2, _, _⟩ := q11 rfl
      obtain ⟨x, x', hA⟩ := len2 m1
      obtain ⟨y, y', hB⟩ := len2 r1
      obtain ⟨u, u', hU⟩ := tlen2 m3
      rw [hA, hU] at m2
      rw [hB, hU] at r2
      rw [hU] at m4
      simp only [vHasRow, Bool.and_eq_true] at m2 r2
      simp only [tBads, Bool.or_eq_false_iff] at m4
      have h1 := hin x (by rw [hA]; simp) y u m4.1 m2.1 r2.1
      have h2 := hin x' (by rw [hA]; simp) y' u' m4.2.1 m2.2.1 r2.2.1
      have g1 : args[0]? = some x := by rw [hA]; rfl
      have g2 : args'[0]? = some y := by rw [hB]; rfl
      have g3 : args[1]? = some x' := by rw [hA]; rfl
      have g4 : args'[1]? = some y' := by rw [hB]; rfl
      have e3 : vCmps args args' = if vCmp x y = 0 then vCmp x' y' else vCmp x y := by rw [hA, hB, cmp_two]
      rw [e3]
      clear m2 r2 e3 hA hB p11 q11
      obtain ⟨x1, x2, x3, x4, x5, x6, x7⟩ := x
      obtain ⟨y1, y2, y3, y4, y5, y6, y7⟩ := y
      obtain ⟨z1, z2, z3, z4, z5, z6, z7⟩ := x'
      obtain ⟨w1, w2, w3, w4, w5, w6, w7⟩ := y'
      by_cases e0 : vCmp (.mk x1 x2 x3 x4 x5 x6 x7) (.mk y1 y2 y3 y4 y5 y6 y7) = 0
      · rw [if_pos e0]
        rw [e0] at h1
        refine QCalls.of Try.func112 rfl (fun args w => Try.call112 args w) (Nat.le_of_ble_eq_true rfl) [(0, .c (encVl (.mk 11 n a s args types code))), (1, .c (encVl (.mk 11 n' a' s' args' types' code')))] rfl fun β hβ => ?_; have hf := Try.func112
        repeat' (first | refine AK.runP Try.hX Try.mixed 300 rfl ?_ | refine AK.condTe rfl asmo ?_ | refine AK.condFe rfl asmo ?_ | (refine AK.condS rfl (fun h => ?_) (fun h => ?_) <;> first | (cases h; done) | rw [h] | skip) | refine AK.retQ Try.hX hf rfl rfl ?_ | refine AK.region Try.mixed rfl ?_ | refine AOps.done ?_ | refine AOps.runS Try.hX kn rfl ?_ | refine AOps.callq kn rfl rfl rfl rfl (h1) ?_ | refine AOps.callq kn rfl rfl rfl rfl (h2) ?_ | refine AOps.index Try.hX rfl rfl rfl rfl rfl rfl rfl rfl rfl rfl (0) rfl (vls_at g1) rfl ?_ | refine AOps.index Try.hX rfl rfl rfl rfl rfl rfl rfl rfl rfl rfl (0) rfl (vls_at g2) rfl ?_ | refine AOps.index Try.hX rfl rfl rfl rfl rfl rfl rfl rfl rfl rfl (1) rfl (vls_at g3) rfl ?_ | refine AOps.index Try.hX rfl rfl rfl rfl rfl rfl rfl rfl rfl rfl (1) rfl (vls_at g4) rfl ?_ | refine AOps.box kn rfl rfl rfl rfl rfl rfl ?_ | refine AOps.alloc Try.hX kn rfl rfl rfl rfl rfl rfl rfl ?_ | refine AOps.store Try.hX kn rfl rfl rfl rfl rfl rfl rfl rfl rfl rfl rfl ?_ | refine AOps.buildSlice Try.hX kn rfl rfl rfl rfl rfl rfl rfl rfl rfl rfl rfl rfl ?_ | refine AOps.append Try.hX kn rfl rfl rfl rfl rfl rfl rfl rfl rfl rfl rfl rfl rfl rfl rfl rfl rfl rfl rfl rfl rfl ?_ ?_ | refine AOps.toStr Try.hX kn rfl rfl rfl rfl rfl rfl rfl rfl rfl rfl rfl (by first | exact rfl | exact byte1 _) rfl ?_ | refine AOps.buildArr Try.hX kn rfl rfl rfl rfl rfl rfl rfl rfl ?_ | refine AOps.indexArr Try.hX kn rfl rfl rfl rfl rfl rfl rfl rfl rfl rfl rfl rfl ?_ | refine AOps.runP1 Try.hX kn rfl rfl ?_ | (refine AOps.splitT rfl rfl rfl asmo (fun h => ?_) <;> (fail_if_success (cases h; done)) <;> rw [h]) | (refine AOps.splitF rfl rfl rfl asmo (fun h => ?_) <;> (fail_if_success (cases h; done)) <;> rw [h]) | (refine AOps.split rfl rfl rfl (fun h => ?_) (fun h => ?_) <;> (fail_if_success (cases h; done)) <;> rw [h]) | refine AOps.drawn (by kernel_rfl) ?_)
        all_goals rfl
      · rw [if_neg e0]
        have e1 : (vCmp (.mk x1 x2 x3 x4 x5 x6 x7) (.mk y1 y2 y3 y4 y5 y6 y7) != 0) = true := by simpa using e0
        refine QCalls.of Try.func112 rfl (fun args w => Try.call112 args w) (Nat.le_of_ble_eq_true rfl) [(0, .c (encVl (.mk 11 n a s args types code))), (1, .c (encVl (.mk 11 n' a' s' args' types' code')))] rfl fun β hβ => ?_; have hf := Try.func112
        repeat' (first | refine AK.runP Try.hX Try.mixed 300 rfl ?_ | refine AK.condTe rfl asmo ?_ | refine AK.condFe rfl asmo ?_ | (refine AK.condS rfl (fun h => ?_) (fun h => ?_) <;> first | (cases h; done) | rw [h] | skip) | refine AK.retQ Try.hX hf rfl rfl ?_ | refine AK.region Try.mixed rfl ?_ | refine AOps.done ?_ | refine AOps.runS Try.hX kn rfl ?_ | refine AOps.callq kn rfl rfl rfl rfl (h1) ?_ | refine AOps.callq kn rfl rfl rfl rfl (h2) ?_ | refine AOps.index Try.hX rfl rfl rfl rfl rfl rfl rfl rfl rfl rfl (0) rfl (vls_at g1) rfl ?_ | refine AOps.index Try.hX rfl rfl rfl rfl rfl rfl rfl rfl rfl rfl (0) rfl (vls_at g2) rfl ?_ | refine AOps.index Try.hX rfl rfl rfl rfl rfl rfl rfl rfl rfl rfl (1) rfl (vls_at g3) rfl ?_ | refine AOps.index Try.hX rfl rfl rfl rfl rfl rfl rfl rfl rfl rfl (1) rfl (vls_at g4) rfl ?_ | refine AOps.box kn rfl rfl rfl rfl rfl rfl ?_ | refine AOps.alloc Try.hX kn rfl rfl rfl rfl rfl rfl rfl ?_ | refine AOps.store Try.hX kn rfl rfl rfl rfl rfl rfl rfl rfl rfl rfl rfl ?_ | refine AOps.buildSlice Try.hX kn rfl rfl rfl rfl rfl rfl rfl rfl rfl rfl rfl rfl ?_ | refine AOps.append Try.hX kn rfl rfl rfl rfl rfl rfl rfl rfl rfl rfl rfl rfl rfl rfl rfl rfl rfl rfl rfl rfl rfl ?_ ?_ | refine AOps.toStr Try.hX kn rfl rfl rfl rfl rfl rfl rfl rfl rfl rfl rfl (by first | exact rfl | exact byte1 _) rfl ?_ | refine AOps.buildArr Try.hX kn rfl rfl rfl rfl rfl rfl rfl rfl ?_ | refine AOps.indexArr Try.hX kn rfl rfl rfl rfl rfl rfl rfl rfl rfl rfl rfl rfl ?_ | refine AOps.runP1 Try.hX kn rfl rfl ?_ | (refine AOps.splitT rfl rfl rfl asmo (fun h => ?_) <;> (fail_if_success (cases h; done)) <;> rw [h]) | (refine AOps.splitF rfl rfl rfl asmo (fun h => ?_) <;> (fail_if_success (cases h; done)) <;> rw [h]) | (refine AOps.split rfl rfl rfl (fun h => ?_) (fun h => ?_) <;> (fail_if_success (cases h; done)) <;> rw [h]) | refine AOps.drawn (by kernel_rfl) ?_)
        all_goals rfl
    by_cases c4 : k' = 12
    · subst c4
      rw [cmp12]
      have h1 := sign_calls n n'
      obtain ⟨m1, m2, m3, m4⟩ := p12 rfl
      obtain ⟨r1, r2, r3, r4⟩ := q12 rfl
      obtain ⟨x, hA⟩ := len1 m3
      obtain ⟨y, hB⟩ := len1 r3
      by_cases e0 : sgn n n' = 0
      · rw [if_pos e0]
        rw [e0] at h1
        have hnn := sgn_zero.1 e0
        have hx := m4 x (by rw [hA]; simp)
        have hy := r4 y (by rw [hB]; simp)
        rw [← hnn] at hy
        have h2 := hin x (by rw [hA]; simp) y (tyArg t n.toNat) hx.2 hx.1 hy.1
        have g1 : args[0]? = some x := by rw [hA]; rfl
        have g2 : args'[0]? = some y := by rw [hB]; rfl
        have e3 : vCmps args args' = vCmp x y := by rw [hA, hB, cmp_one]
        rw [e3]
        obtain ⟨x1, x2, x3, x4, x5, x6, x7⟩ := x
        obtain ⟨y1, y2, y3, y4, y5, y6, y7⟩ := y
        refine QCalls.of Try.func112 rfl (fun args w => Try.call112 args w) (Nat.le_of_ble_eq_true rfl) [(0, .c (encVl (.mk 12 n a s args types code))), (1, .c (encVl (.mk 12 n' a' s' args' types' code')))] rfl fun β hβ => ?_; have hf := Try.func112
        repeat' (first | refine AK.runP Try.hX Try.mixed 300 rfl ?_ | refine AK.condTe rfl asmo ?_ | refine AK.condFe rfl asmo ?_ | (refine AK.condS rfl (fun h => ?_) (fun h => ?_) <;> first | (cases h; done) | rw [h] | skip) | refine AK.retQ Try.hX hf rfl rfl ?_ | refine AK.region Try.mixed rfl ?_ | refine AOps.done ?_ | refine AOps.runS Try.hX kn rfl ?_ | refine AOps.callq kn rfl rfl rfl rfl (h1) ?_ | refine AOps.callq kn rfl rfl rfl rfl (h2) ?_ | refine AOps.index Try.hX rfl rfl rfl rfl rfl rfl rfl rfl rfl rfl (0) rfl (vls_at g1) rfl ?_ | refine AOps.index Try.hX rfl rfl rfl rfl rfl rfl rfl rfl rfl rfl (0) rfl (vls_at g2) rfl ?_ | refine AOps.box kn rfl rfl rfl rfl rfl rfl ?_ | refine AOps.alloc Try.hX kn rfl rfl rfl rfl rfl rfl rfl ?_ | refine AOps.store Try.hX kn rfl rfl rfl rfl rfl rfl rfl rfl rfl rfl rfl ?_ | refine AOps.buildSlice Try.hX kn rfl rfl rfl rfl rfl rfl rfl rfl rfl rfl rfl rfl ?_ | refine AOps.append Try.hX kn rfl rfl rfl rfl rfl rfl rfl rfl rfl rfl rfl rfl rfl rfl rfl rfl rfl rfl rfl rfl rfl ?_ ?_ | refine AOps.toStr Try.hX kn rfl rfl rfl rfl rfl rfl rfl rfl rfl rfl rfl (by first | exact rfl | exact byte1 _) rfl ?_ | refine AOps.buildArr Try.hX kn rfl rfl rfl rfl rfl rfl rfl rfl ?_ | refine AOps.indexArr Try.hX kn rfl rfl rfl rfl rfl rfl rfl rfl rfl rfl rfl rfl ?_ | refine AOps.runP1 Try.hX kn rfl rfl ?_ | (refine AOps.splitT rfl rfl rfl asmo (fun h => ?_) <;> (fail_if_success (cases h; done)) <;> rw [h]) | (refine AOps.splitF rfl rfl rfl asmo (fun h => ?_) <;> (fail_if_success (cases h; done)) <;> rw [h]) | (refine AOps.split rfl rfl rfl (fun h => ?_) (fun h => ?_) <;> (fail_if_success (cases h; done)) <;> rw [h]) | refine AOps.drawn (by kernel_rfl) ?_)
        all_goals rfl
      · rw [if_neg e0]
        have e1 : (sgn n n' != 0) = true := by simpa using e0
        refine QCalls.of Try.func112 rfl (fun args w => Try.call112 args w) (Nat.le_of_ble_eq_true rfl) [(0, .c (encVl (.mk 12 n a s args types code))), (1, .c (encVl (.mk 12 n' a' s' args' types' code')))] rfl fun β hβ => ?_; have hf := Try.func112
        repeat' (first | refine AK.runP Try.hX Try.mixed 300 rfl ?_ | refine AK.condTe rfl asmo ?_ | refine AK.condFe rfl asmo ?_ | (refine AK.condS rfl (fun h => ?_) (fun h => ?_) <;> first | (cases h; done) | rw [h] | skip) | refine AK.retQ Try.hX hf rfl rfl ?_ | refine AK.region Try.mixed rfl ?_ | refine AOps.done ?_ | refine AOps.runS Try.hX kn rfl ?_ | refine AOps.callq kn rfl rfl rfl rfl (h1) ?_ | refine AOps.box kn rfl rfl rfl rfl rfl rfl ?_ | refine AOps.alloc Try.hX kn rfl rfl rfl rfl rfl rfl rfl ?_ | refine AOps.store Try.hX kn rfl rfl rfl rfl rfl rfl rfl rfl rfl rfl rfl ?_ | refine AOps.buildSlice Try.hX kn rfl rfl rfl rfl rfl rfl rfl rfl rfl rfl rfl rfl ?_ | refine AOps.append Try.hX kn rfl rfl rfl rfl rfl rfl rfl rfl rfl rfl rfl rfl rfl rfl rfl rfl rfl rfl rfl rfl rfl ?_ ?_ | refine AOps.toStr Try.hX kn rfl rfl rfl rfl rfl rfl rfl rfl rfl rfl rfl (by first | exact rfl | exact byte1 _) rfl ?_ | refine AOps.buildArr Try.hX kn rfl rfl rfl rfl rfl rfl rfl rfl ?_ | refine AOps.indexArr Try.hX kn rfl rfl rfl rfl rfl rfl rfl rfl rfl rfl rfl rfl ?_ | refine AOps.runP1 Try.hX kn rfl rfl ?_ | (refine AOps.splitT rfl rfl rfl asmo (fun h => ?_) <;> (fail_if_success (cases h; done)) <;> rw [h]) | (refine AOps.splitF rfl rfl rfl asmo (fun h => ?_) <;> (fail_if_success (cases h; done)) <;> rw [h]) | (refine AOps.split rfl rfl rfl (fun h => ?_) (fun h => ?_) <;> (fail_if_success (cases h; done)) <;> rw [h]) | refine AOps.drawn (by kernel_rfl) ?_)
        all_goals rfl
    rw [cmpn c1 c2 c3 c4]
    have e1 : (k' == 6) = false := by simpa using c1
    have e2 : (k' == 9) = false := by simpa using c2
    have e3 : (k' == 11) = false := by simpa using c3
    have e4 : (k' == 12) = false := by simpa using c4
    have h1 := sign_calls n n'
    refine QCalls.of Try.func112 rfl (fun args w => Try.call112 args w) (Nat.le_of_ble_eq_true rfl) [(0, .c (encVl (.mk k' n a s args types code))), (1, .c (encVl (.mk k' n' a' s' args' types' code')))] rfl fun β hβ => ?_; have hf := Try.func112
    repeat' (first | refine AK.runP Try.hX Try.mixed 300 rfl ?_ | refine AK.condTe rfl asmo ?_ | refine AK.condFe rfl asmo ?_ | (refine AK.condS rfl (fun h => ?_) (fun h => ?_) <;> first | (cases h; done) | rw [h] | skip) | refine AK.retQ Try.hX hf rfl rfl ?_ | refine AK.region Try.mixed rfl ?_ | refine AOps.done ?_ | refine AOps.runS Try.hX kn rfl ?_ | refine AOps.callq kn rfl rfl rfl rfl (h1) ?_ | refine AOps.box kn rfl rfl rfl rfl rfl rfl ?_ | refine AOps.alloc Try.hX kn rfl rfl rfl rfl rfl rfl rfl ?_ | refine AOps.store Try.hX kn rfl rfl rfl rfl rfl rfl rfl rfl rfl rfl rfl ?_ | refine AOps.buildSlice Try.hX kn rfl rfl rfl rfl rfl rfl rfl rfl rfl rfl rfl rfl ?_ | refine AOps.append Try.hX kn rfl rfl rfl rfl rfl rfl rfl rfl rfl rfl rfl rfl rfl rfl rfl rfl rfl rfl rfl rfl rfl ?_ ?_ | refine AOps.toStr Try.hX kn rfl rfl rfl rfl rfl rfl rfl rfl rfl rfl rfl (by first | exact rfl | exact byte1 _) rfl ?_ | refine AOps.buildArr Try.hX kn rfl rfl rfl rfl rfl rfl rfl rfl ?_ | refine AOps.indexArr Try.hX kn rfl rfl rfl rfl rfl rfl rfl rfl rfl rfl rfl rfl ?_ | refine AOps.runP1 Try.hX kn rfl rfl ?_ | (refine AOps.splitT rfl rfl rfl asmo (fun h => ?_) <;> (fail_if_success (cases h; done)) <;> rw [h]) | (refine AOps.splitF rfl rfl rfl asmo (fun h => ?_) <;> (fail_if_success (cases h; done)) <;> rw [h]) | (refine AOps.split rfl rfl rfl (fun h => ?_) (fun h => ?_) <;> (fail_if_success (cases h; done)) <;> rw [h]) | refine AOps.drawn (by kernel_rfl) ?_)
    all_goals rfl
termination_by v => SizeOf.sizeOf v
decreasing_by
  have := List.sizeOf_lt_of_mem hx
  simp at this ⊢; omega
end Go.Proofs
