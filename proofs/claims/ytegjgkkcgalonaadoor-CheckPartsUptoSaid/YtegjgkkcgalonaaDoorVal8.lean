/- What Same, plain, address and compare of package value answer. What each and has of package value answer. What prim, wrong, many and Good of package tree answer. What many and Good of package tree answer. What row and parse of package value answer. -/
import Derived.Test.YtegjgkkcgalonaaDoorNum1
import Derived.Test.YtegjgkkcgalonaaDoorKind9
-- WIDE
-- OLDASM
set_option linter.unusedVariables false
set_option linter.unusedSimpArgs false
namespace Go.Proofs
open Go.Abs

theorem vHas_sub {k n a : Int} {s : List UInt8} {args : List Vl} {types : List Ty} {code : List Nd} {t : Ty} (h : vHas (.mk k n a s args types code) t = true) (hb : tBad t = false) :
    k = tyT t ∧ (k = 9 → args.length ≤ 1 ∧ ∀ x ∈ args, vHas x (tyArg t 0) = true ∧ tBad (tyArg t 0) = false) ∧ (k = 11 → args.length = 2 ∧ vHasRow args (tyArgs t) = true ∧ (tyArgs t).length = 2 ∧ tBads (tyArgs t) = false) ∧
      (k = 12 → 0 ≤ n ∧ n ≤ 1 ∧ args.length = 1 ∧ ∀ x ∈ args, vHas x (tyArg t n.toNat) = true ∧ tBad (tyArg t n.toNat) = false) := by
  obtain ⟨h1, h2, h3⟩ := vHas_head h
  have hcond : ¬ (k ≠ tyT t ∨ vPlain (.mk k n a s args types code) = false ∨ 200 < s.length) := by
    rintro (h | h | h)
    · exact h h1
    · rw [h2] at h; simp at h
    · omega
  simp only [vHas, if_neg hcond] at h
  obtain ⟨har, hbs⟩ := tBad_args hb
  rw [← h1] at har
  refine ⟨h1, ?_, ?_, ?_⟩
  · rintro rfl
    simp at h
    have hl : (tyArgs t).length = 1 := by have : arity 9 = 1 := by decide
                                          omega
    refine ⟨h.1.2, fun x hx => ⟨(vHasAll_iff _ _).1 h.2 x hx, tBads_mem hbs (tyArg_mem (by omega))⟩⟩
  · rintro rfl
    simp at h
    have hl : (tyArgs t).length = 2 := by have : arity 11 = 2 := by decide
                                          omega
    exact ⟨h.1.2, h.2, hl, hbs⟩
  · rintro rfl
    simp at h
    have hl : (tyArgs t).length = 2 := by have : arity 12 = 2 := by decide
                                          omega
    refine ⟨h.1.1, h.1.2.1, h.1.2.2, fun x hx => ⟨(vHasAll_iff _ _).1 h.2 x hx, tBads_mem hbs (tyArg_mem (by omega))⟩⟩
theorem cmp6 (n a : Int) (s : List UInt8) (args : List Vl) (types : List Ty) (code : List Nd) (k' n' a' : Int) (s' : List UInt8) (args' : List Vl) (types' : List Ty) (code' : List Nd) : vCmp (.mk 6 n a s args types code) (.mk k' n' a' s' args' types' code') = strCmp s s' := rfl
theorem cmp9 (n a : Int) (s : List UInt8) (args : List Vl) (types : List Ty) (code : List Nd) (k' n' a' : Int) (s' : List UInt8) (args' : List Vl) (types' : List Ty) (code' : List Nd) : vCmp (.mk 9 n a s args types code) (.mk k' n' a' s' args' types' code') = if sgn args.length args'.length = 0 then vCmps args args' else sgn args.length args'.length := rfl
theorem cmp11 (n a : Int) (s : List UInt8) (args : List Vl) (types : List Ty) (code : List Nd) (k' n' a' : Int) (s' : List UInt8) (args' : List Vl) (types' : List Ty) (code' : List Nd) : vCmp (.mk 11 n a s args types code) (.mk k' n' a' s' args' types' code') = vCmps args args' := rfl
theorem cmp12 (n a : Int) (s : List UInt8) (args : List Vl) (types : List Ty) (code : List Nd) (k' n' a' : Int) (s' : List UInt8) (args' : List Vl) (types' : List Ty) (code' : List Nd) : vCmp (.mk 12 n a s args types code) (.mk k' n' a' s' args' types' code') = if sgn n n' = 0 then vCmps args args' else sgn n n' := rfl
theorem cmpn {k : Int} (h1 : k ≠ 6) (h2 : k ≠ 9) (h3 : k ≠ 11) (h4 : k ≠ 12) (n a : Int) (s : List UInt8) (args : List Vl) (types : List Ty) (code : List Nd) (k' n' a' : Int) (s' : List UInt8) (args' : List Vl) (types' : List Ty) (code' : List Nd) : vCmp (.mk k n a s args types code) (.mk k' n' a' s' args' types' code') = sgn n n' := by
  simp only [vCmp, if_neg h1, if_neg h2, if_neg h3, if_neg h4]
theorem cmps_cons (x : Vl) (l : List Vl) (y : Vl) (r : List Vl) : vCmps (x :: l) (y :: r) = if vCmp x y = 0 then vCmps l r else vCmp x y := rfl
theorem cmps_nil (r : List Vl) : vCmps [] r = 0 := by cases r <;> rfl
attribute [local irreducible] AK AOps QCalls ECalls vCmp vCmps vHas vHasAll vHasRow vSame vsSame tySame tysSame ndSame ndsSame sgn strCmp vPlain

theorem address_calls (n : Int) : QCalls Tryd.prog Tryd.X 64 [.int .i64 n] (.bool (decide (0 ≤ n) && decide (n < 12))) := by
  refine QCalls.of Tryd.func64 rfl (fun args w => Tryd.call64 args w) (Nat.le_of_ble_eq_true rfl) [(0, .c (.int .i64 n))] rfl fun β hβ => ?_; have hf := Tryd.func64
  repeat' (first | refine sto ?_ | refine uQ hf rfl rfl ?_ | ((first | refine AOps.splitT rfl rfl rfl asmo (fun h => ?_) | refine AOps.splitF rfl rfl rfl asmo (fun h => ?_) | refine AOps.split rfl rfl rfl (fun h => ?_) (fun h => ?_)) <;> (fail_if_success (cases h; done)) <;> rw [h]))
  all_goals
    show (_ : CV) = _
    clear hf
    simp_all

theorem plain_eq (k n a : Int) (s : List UInt8) (args : List Vl) (types : List Ty) (code : List Nd) : vPlain (.mk k n a s args types code) = (if k = 15 then decide (types.length = 0 ∧ code.length = 0 ∧ s = [])
    else if k = 8 then decide (types.length = 1 ∧ code.length = 0 ∧ s = [])
    else if k = 14 then decide (types.length = 2 ∧ a = 0 ∧ n = 0 ∧ s = [] ∧ args.length = 0)
    else if k = 6 then decide (types.length = 0 ∧ code.length = 0 ∧ a = 0 ∧ n = 0 ∧ args.length = 0)
    else decide (types.length = 0 ∧ code.length = 0 ∧ a = 0 ∧ s = [])) := by simp only [vPlain]

set_option maxHeartbeats 0 in
theorem plain_calls (v : Vl) : QCalls Tryd.prog Tryd.X 62 [encVl v] (.bool (vPlain v)) := by
  obtain ⟨k, n, a, s, args, types, code⟩ := v
  rw [plain_eq]
  by_cases c1 : k = 15
  · subst c1
    refine QCalls.of Tryd.func62 rfl (fun args w => Tryd.call62 args w) (Nat.le_of_ble_eq_true rfl) [(0, .c (encVl (.mk 15 n a s args types code)))] rfl fun β hβ => ?_; have hf := Tryd.func62
    repeat' (first | refine sto ?_ | (refine AK.condS rfl (fun h => ?_) (fun h => ?_) <;> first | (cases h; done) | rw [h] | skip) | refine uQ hf rfl rfl ?_ | ((first | refine AOps.splitT rfl rfl rfl asmo (fun h => ?_) | refine AOps.splitF rfl rfl rfl asmo (fun h => ?_) | refine AOps.split rfl rfl rfl (fun h => ?_) (fun h => ?_)) <;> (fail_if_success (cases h; done)) <;> rw [h]))
    all_goals
      show (_ : CV) = _
      clear hf
      simp only [encTys_length, encNds_length, encVls_length, cond_true, cond_false] at *
      rcases types with _ | ⟨_, _ | ⟨_, _ | ⟨_, _⟩⟩⟩ <;> simp_all <;> (try omega) <;> rcases s with _ | ⟨_, _⟩ <;> rcases args with _ | ⟨_, _⟩ <;> rcases code with _ | ⟨_, _⟩ <;> simp_all <;> omega
  have e1 : (k == 15) = false := by simpa using c1
  by_cases c2 : k = 8
  · subst c2
    refine QCalls.of Tryd.func62 rfl (fun args w => Tryd.call62 args w) (Nat.le_of_ble_eq_true rfl) [(0, .c (encVl (.mk 8 n a s args types code)))] rfl fun β hβ => ?_; have hf := Tryd.func62
    repeat' (first | refine sto ?_ | (refine AK.condS rfl (fun h => ?_) (fun h => ?_) <;> first | (cases h; done) | rw [h] | skip) | refine uQ hf rfl rfl ?_ | ((first | refine AOps.splitT rfl rfl rfl asmo (fun h => ?_) | refine AOps.splitF rfl rfl rfl asmo (fun h => ?_) | refine AOps.split rfl rfl rfl (fun h => ?_) (fun h => ?_)) <;> (fail_if_success (cases h; done)) <;> rw [h]))
    all_goals
      show (_ : CV) = _
      clear hf
      simp only [encTys_length, encNds_length, encVls_length, cond_true, cond_false] at *
      rcases types with _ | ⟨_, _ | ⟨_, _ | ⟨_, _⟩⟩⟩ <;> simp_all <;> (try omega) <;> rcases s with _ | ⟨_, _⟩ <;> rcases args with _ | ⟨_, _⟩ <;> rcases code with _ | ⟨_, _⟩ <;> simp_all <;> omega
  have e2 : (k == 8) = false := by simpa using c2
  by_cases c3 : k = 14
  · subst c3
    refine QCalls.of Tryd.func62 rfl (fun args w => Tryd.call62 args w) (Nat.le_of_ble_eq_true rfl) [(0, .c (encVl (.mk 14 n a s args types code)))] rfl fun β hβ => ?_; have hf := Tryd.func62
    repeat' (first | refine sto ?_ | (refine AK.condS rfl (fun h => ?_) (fun h => ?_) <;> first | (cases h; done) | rw [h] | skip) | refine uQ hf rfl rfl ?_ | ((first | refine AOps.splitT rfl rfl rfl asmo (fun h => ?_) | refine AOps.splitF rfl rfl rfl asmo (fun h => ?_) | refine AOps.split rfl rfl rfl (fun h => ?_) (fun h => ?_)) <;> (fail_if_success (cases h; done)) <;> rw [h]))
    all_goals
      show (_ : CV) = _
      clear hf
      simp only [encTys_length, encNds_length, encVls_length, cond_true, cond_false] at *
      rcases types with _ | ⟨_, _ | ⟨_, _ | ⟨_, _⟩⟩⟩ <;> simp_all <;> (try omega) <;> rcases s with _ | ⟨_, _⟩ <;> rcases args with _ | ⟨_, _⟩ <;> rcases code with _ | ⟨_, _⟩ <;> simp_all <;> omega
  have e3 : (k == 14) = false := by simpa using c3
  by_cases c4 : k = 6
  · subst c4
    refine QCalls.of Tryd.func62 rfl (fun args w => Tryd.call62 args w) (Nat.le_of_ble_eq_true rfl) [(0, .c (encVl (.mk 6 n a s args types code)))] rfl fun β hβ => ?_; have hf := Tryd.func62
    repeat' (first | refine sto ?_ | (refine AK.condS rfl (fun h => ?_) (fun h => ?_) <;> first | (cases h; done) | rw [h] | skip) | refine uQ hf rfl rfl ?_ | ((first | refine AOps.splitT rfl rfl rfl asmo (fun h => ?_) | refine AOps.splitF rfl rfl rfl asmo (fun h => ?_) | refine AOps.split rfl rfl rfl (fun h => ?_) (fun h => ?_)) <;> (fail_if_success (cases h; done)) <;> rw [h]))
    all_goals
      show (_ : CV) = _
      clear hf
      simp only [encTys_length, encNds_length, encVls_length, cond_true, cond_false] at *
      rcases types with _ | ⟨_, _ | ⟨_, _ | ⟨_, _⟩⟩⟩ <;> simp_all <;> (try omega) <;> rcases s with _ | ⟨_, _⟩ <;> rcases args with _ | ⟨_, _⟩ <;> rcases code with _ | ⟨_, _⟩ <;> simp_all <;> omega
  have e4 : (k == 6) = false := by simpa using c4
  refine QCalls.of Tryd.func62 rfl (fun args w => Tryd.call62 args w) (Nat.le_of_ble_eq_true rfl) [(0, .c (encVl (.mk k n a s args types code)))] rfl fun β hβ => ?_; have hf := Tryd.func62
  repeat' (first | refine sto ?_ | (refine AK.condS rfl (fun h => ?_) (fun h => ?_) <;> first | (cases h; done) | rw [h] | skip) | refine uQ hf rfl rfl ?_ | ((first | refine AOps.splitT rfl rfl rfl asmo (fun h => ?_) | refine AOps.splitF rfl rfl rfl asmo (fun h => ?_) | refine AOps.split rfl rfl rfl (fun h => ?_) (fun h => ?_)) <;> (fail_if_success (cases h; done)) <;> rw [h]))
  all_goals
    show (_ : CV) = _
    clear hf
    simp only [encTys_length, encNds_length, encVls_length, cond_true, cond_false] at *
    rcases types with _ | ⟨_, _ | ⟨_, _ | ⟨_, _⟩⟩⟩ <;> simp_all <;> (try omega) <;> rcases s with _ | ⟨_, _⟩ <;> rcases args with _ | ⟨_, _⟩ <;> rcases code with _ | ⟨_, _⟩ <;> simp_all <;> omega

theorem len1 {l : List Vl} (h : l.length = 1) : ∃ x, l = [x] := by
  match l, h with
  | [x], _ => exact ⟨x, rfl⟩
theorem len2 {l : List Vl} (h : l.length = 2) : ∃ x y, l = [x, y] := by
  match l, h with
  | [x, y], _ => exact ⟨x, y, rfl⟩
theorem tlen2 {l : List Ty} (h : l.length = 2) : ∃ x y, l = [x, y] := by
  match l, h with
  | [x, y], _ => exact ⟨x, y, rfl⟩
theorem cmp_one (x y : Vl) : vCmps [x] [y] = vCmp x y := by rw [cmps_cons, cmps_nil]; split <;> simp_all
theorem cmp_two (x x' y y' : Vl) : vCmps [x, x'] [y, y'] = if vCmp x y = 0 then vCmp x' y' else vCmp x y := by rw [cmps_cons, cmp_one]

set_option maxHeartbeats 0 in
theorem compare_calls : ∀ (v w : Vl) (t : Ty), tBad t = false → vHas v t = true → vHas w t = true → vlSize v ≤ 1099511627776 → QCalls Tryd.prog Tryd.X 66 [encVl v, encVl w] (.int .i64 (vCmp v w))
  | .mk k n a s args types code, .mk k' n' a' s' args' types' code', t, hb, hv, hw, hsz => by
    simp only [vlSize] at hsz
    obtain ⟨p0, p9, p11, p12⟩ := vHas_sub hv hb
    obtain ⟨q0, q9, q11, q12⟩ := vHas_sub hw hb
    obtain rfl : k' = k := by rw [p0, q0]
    clear hv hw
    have hin : ∀ x ∈ args, ∀ y u, tBad u = false → vHas x u = true → vHas y u = true → QCalls Tryd.prog Tryd.X 66 [encVl x, encVl y] (.int .i64 (vCmp x y)) := fun x hx y u h1 h2 h3 => compare_calls x y u h1 h2 h3 (by have := vlsSize_mem hx; omega)
    by_cases c1 : k' = 6
    · subst c1
      rw [cmp6]
      have h1 := strCompare_calls s s'
      refine QCalls.of Tryd.func66 rfl (fun args w => Tryd.call66 args w) (Nat.le_of_ble_eq_true rfl) [(0, .c (encVl (.mk 6 n a s args types code))), (1, .c (encVl (.mk 6 n' a' s' args' types' code')))] rfl fun β hβ => ?_; have hf := Tryd.func66
      repeat' (first | refine sto ?_ | (refine AK.condS rfl (fun h => ?_) (fun h => ?_) <;> first | (cases h; done) | rw [h] | skip) | refine uQ hf rfl rfl ?_ | refine uC rfl h1 ?_ | ((first | refine AOps.splitT rfl rfl rfl asmo (fun h => ?_) | refine AOps.splitF rfl rfl rfl asmo (fun h => ?_) | refine AOps.split rfl rfl rfl (fun h => ?_) (fun h => ?_)) <;> (fail_if_success (cases h; done)) <;> rw [h]))
      all_goals rfl
    by_cases c2 : k' = 9
    · subst c2
      rw [cmp9]
      have h1 := sign_calls (((encVls args).length : Nat) : Int) (((encVls args').length : Nat) : Int)
      by_cases e0 : sgn args.length args'.length = 0
      · rw [if_pos e0]
        rw [encVls_length, encVls_length, e0, ← encVls_length, ← encVls_length args'] at h1
        have hll := sgn_zero.1 e0
        by_cases hz : args.length = 0
        · have e5 : ((((encVls args).length : Nat) : Int) == 0) = true := by rw [encVls_length]; simpa using hz
          rw [List.length_eq_zero_iff.1 hz, cmps_nil]
          rw [List.length_eq_zero_iff.1 hz] at h1 e5
          refine QCalls.of Tryd.func66 rfl (fun args w => Tryd.call66 args w) (Nat.le_of_ble_eq_true rfl) [(0, .c (encVl (.mk 9 n a s [] types code))), (1, .c (encVl (.mk 9 n' a' s' args' types' code')))] rfl fun β hβ => ?_; have hf := Tryd.func66
          repeat' (first | refine sto ?_ | (refine AK.condS rfl (fun h => ?_) (fun h => ?_) <;> first | (cases h; done) | rw [h] | skip) | refine uQ hf rfl rfl ?_ | refine uC rfl h1 ?_ | ((first | refine AOps.splitT rfl rfl rfl asmo (fun h => ?_) | refine AOps.splitF rfl rfl rfl asmo (fun h => ?_) | refine AOps.split rfl rfl rfl (fun h => ?_) (fun h => ?_)) <;> (fail_if_success (cases h; done)) <;> rw [h]))
          all_goals rfl
        · have e5 : ((((encVls args).length : Nat) : Int) == 0) = false := by rw [encVls_length]; simpa using hz
          obtain ⟨x, hA⟩ := len1 (show args.length = 1 by have := (p9 rfl).1; omega)
          obtain ⟨y, hB⟩ := len1 (show args'.length = 1 by have := (q9 rfl).1; omega)
          have hx := (p9 rfl).2 x (by rw [hA]; simp)
          have hy := (q9 rfl).2 y (by rw [hB]; simp)
          have h2 := hin x (by rw [hA]; simp) y (tyArg t 0) hx.2 hx.1 hy.1
          have g1 : args[0]? = some x := by rw [hA]; rfl
          have g2 : args'[0]? = some y := by rw [hB]; rfl
          have e3 : vCmps args args' = vCmp x y := by rw [hA, hB, cmp_one]
          rw [e3]
          obtain ⟨x1, x2, x3, x4, x5, x6, x7⟩ := x
          obtain ⟨y1, y2, y3, y4, y5, y6, y7⟩ := y
          refine QCalls.of Tryd.func66 rfl (fun args w => Tryd.call66 args w) (Nat.le_of_ble_eq_true rfl) [(0, .c (encVl (.mk 9 n a s args types code))), (1, .c (encVl (.mk 9 n' a' s' args' types' code')))] rfl fun β hβ => ?_; have hf := Tryd.func66
          repeat' (first | refine sto ?_ | (refine AK.condS rfl (fun h => ?_) (fun h => ?_) <;> first | (cases h; done) | rw [h] | skip) | refine uQ hf rfl rfl ?_ | refine uC rfl h1 ?_ | refine uC rfl h2 ?_ | refine uI rfl (0) rfl (vls_at g1) rfl ?_ | refine uI rfl (0) rfl (vls_at g2) rfl ?_ | ((first | refine AOps.splitT rfl rfl rfl asmo (fun h => ?_) | refine AOps.splitF rfl rfl rfl asmo (fun h => ?_) | refine AOps.split rfl rfl rfl (fun h => ?_) (fun h => ?_)) <;> (fail_if_success (cases h; done)) <;> rw [h]))
          all_goals rfl
      · rw [if_neg e0]
        have e1 : (sgn args.length args'.length != 0) = true := by simpa using e0
        rw [← encVls_length, ← encVls_length args'] at e1 ⊢
        refine QCalls.of Tryd.func66 rfl (fun args w => Tryd.call66 args w) (Nat.le_of_ble_eq_true rfl) [(0, .c (encVl (.mk 9 n a s args types code))), (1, .c (encVl (.mk 9 n' a' s' args' types' code')))] rfl fun β hβ => ?_; have hf := Tryd.func66
        repeat' (first | refine sto ?_ | (refine AK.condS rfl (fun h => ?_) (fun h => ?_) <;> first | (cases h; done) | rw [h] | skip) | refine uQ hf rfl rfl ?_ | refine uC rfl h1 ?_ | ((first | refine AOps.splitT rfl rfl rfl asmo (fun h => ?_) | refine AOps.splitF rfl rfl rfl asmo (fun h => ?_) | refine AOps.split rfl rfl rfl (fun h => ?_) (fun h => ?_)) <;> (fail_if_success (cases h; done)) <;> rw [h]))
        all_goals rfl
    by_cases c3 : k' = 11
    · subst c3
      rw [cmp11]
      obtain ⟨m1, m2, m3, m4⟩ := p11 rfl
      obtain ⟨r1, r2, _, _⟩ := q11 rfl
      obtain ⟨x, x', hA⟩ := len2 m1
      obtain ⟨y, y', hB⟩ := len2 r1
      obtain ⟨u, u', hU⟩ := tlen2 m3
      rw [hA, hU] at m2
      rw [hB, hU] at r2
      rw [hU] at m4
      simp only [vHasRow, Bool.and_eq_true] at m2 r2
      simp only [tBads, Bool.or_eq_false_iff] at m4
      have h1 := hin x (by rw [hA]; simp) y u m4.1 m2.1 r2.1
      have h2 := hin x' (by rw [hA]; simp) y' u' m4.2.1 m2.2.1 r2.2.1
      have g1 : args[0]? = some x := by rw [hA]; rfl
      have g2 : args'[0]? = some y := by rw [hB]; rfl
      have g3 : args[1]? = some x' := by rw [hA]; rfl
      have g4 : args'[1]? = some y' := by rw [hB]; rfl
      have e3 : vCmps args args' = if vCmp x y = 0 then vCmp x' y' else vCmp x y := by rw [hA, hB, cmp_two]
      rw [e3]
      clear m2 r2 e3 hA hB p11 q11
      obtain ⟨x1, x2, x3, x4, x5, x6, x7⟩ := x
      obtain ⟨y1, y2, y3, y4, y5, y6, y7⟩ := y
      obtain ⟨z1, z2, z3, z4, z5, z6, z7⟩ := x'
      obtain ⟨w1, w2, w3, w4, w5, w6, w7⟩ := y'
      by_cases e0 : vCmp (.mk x1 x2 x3 x4 x5 x6 x7) (.mk y1 y2 y3 y4 y5 y6 y7) = 0
      · rw [if_pos e0]
        rw [e0] at h1
        refine QCalls.of Tryd.func66 rfl (fun args w => Tryd.call66 args w) (Nat.le_of_ble_eq_true rfl) [(0, .c (encVl (.mk 11 n a s args types code))), (1, .c (encVl (.mk 11 n' a' s' args' types' code')))] rfl fun β hβ => ?_; have hf := Tryd.func66
        repeat' (first | refine sto ?_ | (refine AK.condS rfl (fun h => ?_) (fun h => ?_) <;> first | (cases h; done) | rw [h] | skip) | refine uQ hf rfl rfl ?_ | refine uC rfl h1 ?_ | refine uC rfl h2 ?_ | refine uI rfl (0) rfl (vls_at g1) rfl ?_ | refine uI rfl (0) rfl (vls_at g2) rfl ?_ | refine uI rfl (1) rfl (vls_at g3) rfl ?_ | refine uI rfl (1) rfl (vls_at g4) rfl ?_ | ((first | refine AOps.splitT rfl rfl rfl asmo (fun h => ?_) | refine AOps.splitF rfl rfl rfl asmo (fun h => ?_) | refine AOps.split rfl rfl rfl (fun h => ?_) (fun h => ?_)) <;> (fail_if_success (cases h; done)) <;> rw [h]))
        all_goals rfl
      · rw [if_neg e0]
        have e1 : (vCmp (.mk x1 x2 x3 x4 x5 x6 x7) (.mk y1 y2 y3 y4 y5 y6 y7) != 0) = true := by simpa using e0
        refine QCalls.of Tryd.func66 rfl (fun args w => Tryd.call66 args w) (Nat.le_of_ble_eq_true rfl) [(0, .c (encVl (.mk 11 n a s args types code))), (1, .c (encVl (.mk 11 n' a' s' args' types' code')))] rfl fun β hβ => ?_; have hf := Tryd.func66
        repeat' (first | refine sto ?_ | (refine AK.condS rfl (fun h => ?_) (fun h => ?_) <;> first | (cases h; done) | rw [h] | skip) | refine uQ hf rfl rfl ?_ | refine uC rfl h1 ?_ | refine uC rfl h2 ?_ | refine uI rfl (0) rfl (vls_at g1) rfl ?_ | refine uI rfl (0) rfl (vls_at g2) rfl ?_ | refine uI rfl (1) rfl (vls_at g3) rfl ?_ | refine uI rfl (1) rfl (vls_at g4) rfl ?_ | ((first | refine AOps.splitT rfl rfl rfl asmo (fun h => ?_) | refine AOps.splitF rfl rfl rfl asmo (fun h => ?_) | refine AOps.split rfl rfl rfl (fun h => ?_) (fun h => ?_)) <;> (fail_if_success (cases h; done)) <;> rw [h]))
        all_goals rfl
    by_cases c4 : k' = 12
    · subst c4
      rw [cmp12]
      have h1 := sign_calls n n'
      obtain ⟨m1, m2, m3, m4⟩ := p12 rfl
      obtain ⟨r1, r2, r3, r4⟩ := q12 rfl
      obtain ⟨x, hA⟩ := len1 m3
      obtain ⟨y, hB⟩ := len1 r3
      by_cases e0 : sgn n n' = 0
      · rw [if_pos e0]
        rw [e0] at h1
        have hnn := sgn_zero.1 e0
        have hx := m4 x (by rw [hA]; simp)
        have hy := r4 y (by rw [hB]; simp)
        rw [← hnn] at hy
        have h2 := hin x (by rw [hA]; simp) y (tyArg t n.toNat) hx.2 hx.1 hy.1
        have g1 : args[0]? = some x := by rw [hA]; rfl
        have g2 : args'[0]? = some y := by rw [hB]; rfl
        have e3 : vCmps args args' = vCmp x y := by rw [hA, hB, cmp_one]
        rw [e3]
        obtain ⟨x1, x2, x3, x4, x5, x6, x7⟩ := x
        obtain ⟨y1, y2, y3, y4, y5, y6, y7⟩ := y
        refine QCalls.of Tryd.func66 rfl (fun args w => Tryd.call66 args w) (Nat.le_of_ble_eq_true rfl) [(0, .c (encVl (.mk 12 n a s args types code))), (1, .c (encVl (.mk 12 n' a' s' args' types' code')))] rfl fun β hβ => ?_; have hf := Tryd.func66
        repeat' (first | refine sto ?_ | (refine AK.condS rfl (fun h => ?_) (fun h => ?_) <;> first | (cases h; done) | rw [h] | skip) | refine uQ hf rfl rfl ?_ | refine uC rfl h1 ?_ | refine uC rfl h2 ?_ | refine uI rfl (0) rfl (vls_at g1) rfl ?_ | refine uI rfl (0) rfl (vls_at g2) rfl ?_ | ((first | refine AOps.splitT rfl rfl rfl asmo (fun h => ?_) | refine AOps.splitF rfl rfl rfl asmo (fun h => ?_) | refine AOps.split rfl rfl rfl (fun h => ?_) (fun h => ?_)) <;> (fail_if_success (cases h; done)) <;> rw [h]))
        all_goals rfl
      · rw [if_neg e0]
        have e1 : (sgn n n' != 0) = true := by simpa using e0
        refine QCalls.of Tryd.func66 rfl (fun args w => Tryd.call66 args w) (Nat.le_of_ble_eq_true rfl) [(0, .c (encVl (.mk 12 n a s args types code))), (1, .c (encVl (.mk 12 n' a' s' args' types' code')))] rfl fun β hβ => ?_; have hf := Tryd.func66
        repeat' (first | refine sto ?_ | (refine AK.condS rfl (fun h => ?_) (fun h => ?_) <;> first | (cases h; done) | rw [h] | skip) | refine uQ hf rfl rfl ?_ | refine uC rfl h1 ?_ | ((first | refine AOps.splitT rfl rfl rfl asmo (fun h => ?_) | refine AOps.splitF rfl rfl rfl asmo (fun h => ?_) | refine AOps.split rfl rfl rfl (fun h => ?_) (fun h => ?_)) <;> (fail_if_success (cases h; done)) <;> rw [h]))
        all_goals rfl
    rw [cmpn c1 c2 c3 c4]
    have e1 : (k' == 6) = false := by simpa using c1
    have e2 : (k' == 9) = false := by simpa using c2
    have e3 : (k' == 11) = false := by simpa using c3
    have e4 : (k' == 12) = false := by simpa using c4
    have h1 := sign_calls n n'
    refine QCalls.of Tryd.func66 rfl (fun args w => Tryd.call66 args w) (Nat.le_of_ble_eq_true rfl) [(0, .c (encVl (.mk k' n a s args types code))), (1, .c (encVl (.mk k' n' a' s' args' types' code')))] rfl fun β hβ => ?_; have hf := Tryd.func66
    repeat' (first | refine sto ?_ | (refine AK.condS rfl (fun h => ?_) (fun h => ?_) <;> first | (cases h; done) | rw [h] | skip) | refine uQ hf rfl rfl ?_ | refine uC rfl h1 ?_ | ((first | refine AOps.splitT rfl rfl rfl asmo (fun h => ?_) | refine AOps.splitF rfl rfl rfl asmo (fun h => ?_) | refine AOps.split rfl rfl rfl (fun h => ?_) (fun h => ?_)) <;> (fail_if_success (cases h; done)) <;> rw [h]))
    all_goals rfl
termination_by v => SizeOf.sizeOf v
decreasing_by
  have := List.sizeOf_lt_of_mem hx
  simp at this ⊢; omega
end Go.Proofs

set_option linter.unusedVariables false
set_option linter.unusedSimpArgs false
set_option maxRecDepth 100000
namespace Go.Proofs
open Go.Abs
theorem vHasAll_any (t : Ty) : ∀ (l : List Vl), (!(l.any fun x => !vHas x t)) = vHasAll l t
  | [] => rfl
  | x :: l => by simp only [vHasAll, ← vHasAll_any t l, List.any_cons]; cases vHas x t <;> simp
/-- The keys go up. -/
def upB : List Vl → Bool
  | [] => true
  | [_] => true
  | x :: y :: l => decide (vCmp (vKey x) (vKey y) < 0) && upB (y :: l)
theorem vUp_eq : ∀ l : List Vl, vUp l = upB l
  | [] => rfl
  | [_] => rfl
  | x :: y :: l => by
    have := vUp_eq (y :: l)
    simp only [upB, ← this]
    rfl
/-- The items of a map from a place on, behind another one. -/
def mapB (t : Ty) : Option Vl → List Vl → Bool
  | _, [] => true
  | none, x :: l => vHas x t && mapB t (some x) l
  | some p, x :: l => vHas x t && (decide (vCmp (vKey p) (vKey x) < 0) && mapB t (some x) l)
theorem mapB_some (t : Ty) : ∀ (l : List Vl) (p : Vl), mapB t (some p) l = (vHasAll l t && upB (p :: l))
  | [], p => by simp [mapB, vHasAll, upB]
  | x :: l, p => by
    simp only [mapB, vHasAll, upB, mapB_some t l x]
    cases vHas x t <;> cases vHasAll l t <;> cases decide (vCmp (vKey p) (vKey x) < 0) <;> simp
theorem mapB_none (t : Ty) (l : List Vl) : mapB t none l = (vHasAll l t && vUp l) := by
  rw [vUp_eq]
  cases l with
  | nil => rfl
  | cons x l =>
    simp only [mapB, vHasAll, mapB_some]
    cases vHas x t <;> simp

theorem mapB_nil (t : Ty) (p : Option Vl) : mapB t p [] = true := by cases p <;> rfl
theorem mapB_none_cons (t : Ty) (x : Vl) (l : List Vl) : mapB t none (x :: l) = (vHas x t && mapB t (some x) l) := rfl
theorem mapB_some_cons (t : Ty) (p x : Vl) (l : List Vl) : mapB t (some p) (x :: l) = (vHas x t && (decide (vCmp (vKey p) (vKey x) < 0) && mapB t (some x) l)) := rfl
theorem has_no (k n a : Int) (s : List UInt8) (args : List Vl) (types : List Ty) (code : List Nd) (t : Ty) (h : k ≠ tyT t ∨ vPlain (.mk k n a s args types code) = false ∨ 200 < s.length) : vHas (.mk k n a s args types code) t = false := by simp only [vHas, if_pos h]
theorem has_go (k n a : Int) (s : List UInt8) (args : List Vl) (types : List Ty) (code : List Nd) (t : Ty) (h : ¬ (k ≠ tyT t ∨ vPlain (.mk k n a s args types code) = false ∨ 200 < s.length)) : vHas (.mk k n a s args types code) t =
    (if k = 1 ∨ k = 6 then decide (n = 0 ∧ args.length = 0)
    else if k = 2 then decide (0 ≤ n ∧ n ≤ 1 ∧ args.length = 0)
    else if k = 3 then decide (-maxI ≤ n ∧ n ≤ maxI ∧ args.length = 0)
    else if k = 4 ∨ k = 5 then decide (0 ≤ n ∧ n ≤ maxI ∧ args.length = 0)
    else if k = 7 then decide (0 ≤ n ∧ n < 12 ∧ args.length = 0)
    else if k = 9 then decide (n = 0 ∧ args.length ≤ 1) && vHasAll args (tyArg t 0)
    else if k = 10 then decide (n = 0 ∧ args.length ≤ 24) && vHasAll args (tyArg t 0)
    else if k = 11 then decide (n = 0 ∧ args.length = 2) && vHasRow args (tyArgs t)
    else if k = 12 then decide (0 ≤ n ∧ n ≤ 1 ∧ args.length = 1) && vHasAll args (tyArg t n.toNat)
    else if k = 13 then decide (n = 0 ∧ args.length ≤ 24) && mapB (.mk 11 (tyArgs t)) none args
    else if k = 14 then tySame (tyArg t 0) (types.getD 0 ty0) && tySame (tyArg t 1) (types.getD 1 ty0)
    else if k = 15 then decide (1 ≤ n ∧ n ≤ maxI ∧ 0 ≤ a ∧ a < 12 ∧ args.length = 1) && vHasAll args (tyArg t 0)
    else if k = 8 then decide (0 ≤ n ∧ n ≤ maxI ∧ 0 ≤ a ∧ a < 12 ∧ args.length = 1) && tGood (types.getD 0 ty0) && vHasAll args (types.getD 0 ty0)
    else false) := by
  simp only [vHas, if_neg h, mapB_none, Bool.and_assoc]
attribute [local irreducible] AK AOps QCalls ECalls vCmp vCmps vHas vHasAll vHasRow vSame vsSame tySame tysSame ndSame ndsSame sgn strCmp vPlain mapB upB vUp tGood

set_option maxHeartbeats 0 in
theorem each_calls (t : Ty) (l : List Vl) (hp : ∀ x ∈ l, QCalls Tryd.prog Tryd.X 48 [encTy t, encVl x] (.bool (vHas x t))) (hlen : l.length ≤ 1099511627776) :
    QCalls Tryd.prog Tryd.X 65 [encTy t, .sl 7 (encVls l)] (.bool (vHasAll l t)) := by
  obtain ⟨T, ts⟩ := t
  have hin : ∀ x ∈ l, QCalls Tryd.prog Tryd.X 73 (encVl x :: [.ip [.int .i64 T, .sl 2 (encTys ts)]]) (.bool (!vHas x (.mk T ts))) := by
    intro x hx
    have hrec := hp x hx
    obtain ⟨x1, x2, x3, x4, x5, x6, x7⟩ := x
    refine QCalls.of Tryd.func73 rfl (fun args w => Tryd.call73 args w) (Nat.le_of_ble_eq_true rfl) [(0, .c (encVl (.mk x1 x2 x3 x4 x5 x6 x7))), (1, .c (.ip [.int .i64 T, .sl 2 (encTys ts)]))] rfl fun β hβ => ?_; have hf := Tryd.func73
    exact dq
  have hq := containsVl_calls l (fun x => !vHas x (.mk T ts)) 73 [.ip [.int .i64 T, .sl 2 (encTys ts)]] hin hlen
  rw [← vHasAll_any]
  refine QCalls.of Tryd.func65 rfl (fun args w => Tryd.call65 args w) (Nat.le_of_ble_eq_true rfl) [(0, .c (encTy (.mk T ts))), (1, .c (.sl 7 (encVls l)))] rfl fun β hβ => ?_; have hf := Tryd.func65
  refine AK.seq ?_
  refine AK.region Tryd.mixed rfl ?_
  repeat' (first | refine so ?_)
  refine AK.freeze 2 rfl rfl rfl rfl ?_
  exact dq
def vBodyM (k n a : Int) (args : List Vl) (types : List Ty) (t : Ty) : Bool :=
    if k = 1 ∨ k = 6 then decide (n = 0 ∧ args.length = 0)
    else if k = 2 then decide (0 ≤ n ∧ n ≤ 1 ∧ args.length = 0)
    else if k = 3 then decide (-maxI ≤ n ∧ n ≤ maxI ∧ args.length = 0)
    else if k = 4 ∨ k = 5 then decide (0 ≤ n ∧ n ≤ maxI ∧ args.length = 0)
    else if k = 7 then decide (0 ≤ n ∧ n < 12 ∧ args.length = 0)
    else if k = 9 then decide (n = 0 ∧ args.length ≤ 1) && vHasAll args (tyArg t 0)
    else if k = 10 then decide (n = 0 ∧ args.length ≤ 24) && vHasAll args (tyArg t 0)
    else if k = 11 then decide (n = 0 ∧ args.length = 2) && vHasRow args (tyArgs t)
    else if k = 12 then decide (0 ≤ n ∧ n ≤ 1 ∧ args.length = 1) && vHasAll args (tyArg t n.toNat)
    else if k = 13 then decide (n = 0 ∧ args.length ≤ 24) && mapB (.mk 11 (tyArgs t)) none args
    else if k = 14 then tySame (tyArg t 0) (types.getD 0 ty0) && tySame (tyArg t 1) (types.getD 1 ty0)
    else if k = 15 then decide (1 ≤ n ∧ n ≤ maxI ∧ 0 ≤ a ∧ a < 12 ∧ args.length = 1) && vHasAll args (tyArg t 0)
    else if k = 8 then decide (0 ≤ n ∧ n ≤ maxI ∧ 0 ≤ a ∧ a < 12 ∧ args.length = 1) && tGood (types.getD 0 ty0) && vHasAll args (types.getD 0 ty0)
    else false
theorem nIn_dec (n : Int) : nIn n = decide (-maxI ≤ n ∧ n ≤ maxI) := by
  unfold nIn; rw [Bool.eq_iff_iff]; simp [maxI]
theorem has11 {x : Vl} {u u' : Ty} (h : vHas x (.mk 11 [u, u']) = true) : ∃ n a s types code y z, x = .mk 11 n a s [y, z] types code ∧ vHas y u = true ∧ vHas z u' = true := by
  obtain ⟨k, n, a, s, args, types, code⟩ := x
  obtain ⟨h1, h2, h3⟩ := vHas_head h
  have h1' : k = 11 := h1
  subst h1'
  rw [has_go _ _ _ _ _ _ _ _ (by rintro (h | h | h); exact h h1; rw [h2] at h; cases h; omega)] at h
  have h4 : (decide (n = 0 ∧ args.length = 2) && vHasRow args [u, u']) = true := h
  simp only [Bool.and_eq_true, decide_eq_true_eq] at h4
  obtain ⟨y, z, rfl⟩ := len2 h4.1.2
  have h5 : (vHas y u && (vHas z u' && vHasRow [] [])) = true := by
    have := h4.2; unfold vHasRow at this; unfold vHasRow at this; exact this
  simp only [Bool.and_eq_true] at h5
  exact ⟨n, a, s, types, code, y, z, rfl, h5.1, h5.2.1⟩
theorem tlen1 {l : List Ty} (h : l.length = 1) : ∃ x, l = [x] := by
  match l, h with
  | [x], _ => exact ⟨x, rfl⟩
theorem arity_in {k : Int} {m : Nat} (h : arity k = (m : Int)) : 1 ≤ k ∧ k ≤ 15 := by
  unfold arity at h
  split at h <;> omega
theorem getD0 (x : Ty) (l : List Ty) (d : Ty) : (x :: l).getD 0 d = x := rfl
theorem tGood_bad {t : Ty} (h : tGood t = true) : tBad t = false := by
  cases hb : tBad t with
  | false => rfl
  | true =>
    have h1 := bad_good t 24 300 hb
    rw [rGood_top, h] at h1; cases h1
/-- The item ahead of a place. -/
def pre (l : List Vl) (i : Nat) : Option Vl := if i = 0 then none else l[i - 1]?

set_option maxHeartbeats 0 in
theorem has_calls : ∀ (v : Vl) (t : Ty), tBad t = false → vlSize v ≤ 8589934593 → tySize t ≤ 8589934593 → QCalls Tryd.prog Tryd.X 48 [encTy t, encVl v] (.bool (vHas v t))
  | .mk k n a s args types code, .mk T ts, hb, hv, ht => by
    simp only [vlSize] at hv
    simp only [tySize] at ht
    have hl1 := vlsSize_len args
    have hin : ∀ x ∈ args, ∀ u, tBad u = false → tySize u ≤ 8589934593 → QCalls Tryd.prog Tryd.X 48 [encTy u, encVl x] (.bool (vHas x u)) := fun x hx u h1 h2 => has_calls x u h1 (by have := vlsSize_mem hx; omega) h2
    have hp := plain_calls (.mk k n a s args types code)
    by_cases d1 : k = T
    rotate_left
    · have e1 : (k != T) = true := by simpa using d1
      rw [has_no _ _ _ _ _ _ _ _ (.inl d1)]
      refine QCalls.of Tryd.func48 rfl (fun args w => Tryd.call48 args w) (Nat.le_of_ble_eq_true rfl) [(0, .c (encTy (.mk T ts))), (1, .c (encVl (.mk k n a s args types code)))] rfl fun β hβ => ?_; have hf := Tryd.func48
      exact dq
    subst d1
    have e1 : (k != k) = false := by simp
    by_cases d2 : vPlain (.mk k n a s args types code) = false
    · rw [has_no _ _ _ _ _ _ _ _ (.inr (.inl d2))]
      rw [d2] at hp
      refine QCalls.of Tryd.func48 rfl (fun args w => Tryd.call48 args w) (Nat.le_of_ble_eq_true rfl) [(0, .c (encTy (.mk k ts))), (1, .c (encVl (.mk k n a s args types code)))] rfl fun β hβ => ?_; have hf := Tryd.func48
      exact dq
    have d2' : vPlain (.mk k n a s args types code) = true := by simpa using d2
    rw [d2'] at hp
    by_cases d3 : 200 < s.length
    · have e3 : decide (((s.length : Nat) : Int) > 200) = true := by simp; omega
      rw [has_no _ _ _ _ _ _ _ _ (.inr (.inr d3))]
      refine QCalls.of Tryd.func48 rfl (fun args w => Tryd.call48 args w) (Nat.le_of_ble_eq_true rfl) [(0, .c (encTy (.mk k ts))), (1, .c (encVl (.mk k n a s args types code)))] rfl fun β hβ => ?_; have hf := Tryd.func48
      exact dq
    have e3 : decide (((s.length : Nat) : Int) > 200) = false := by simp; omega
    have hgo : vHas (.mk k n a s args types code) (.mk k ts) = vBodyM k n a args types (.mk k ts) := has_go _ _ _ _ _ _ _ _ (by rintro (h | h | h); exact h rfl; exact d2 h; exact d3 h)
    rw [hgo]
    obtain ⟨har, hbs⟩ := tBad_args hb
    simp only [tyT, tyArgs] at har hbs
    have hpl : vPlain (.mk k n a s args types code) = true := d2'
    rw [plain_eq] at hpl
    clear hgo d2 d2' d3
    by_cases c : k = 1
    · subst c
      show QCalls _ _ _ _ (.bool (decide (n = 0 ∧ args.length = 0)))
      rw [← encVls_length]
      refine QCalls.of Tryd.func48 rfl (fun args w => Tryd.call48 args w) (Nat.le_of_ble_eq_true rfl) [(0, .c (encTy (.mk 1 ts))), (1, .c (encVl (.mk 1 n a s args types code)))] rfl fun β hβ => ?_; have hf := Tryd.func48
      repeat' (first | refine st ?_ | (refine AK.condS rfl (fun h => ?_) (fun h => ?_) <;> first | (cases h; done) | rw [h] | skip) | refine uQ hf rfl rfl ?_ | refine uC rfl hp ?_ | ((first | refine AOps.splitT rfl rfl rfl asm (fun h => ?_) | refine AOps.splitF rfl rfl rfl asm (fun h => ?_) | refine AOps.split rfl rfl rfl (fun h => ?_) (fun h => ?_)) <;> (fail_if_success (cases h; done)) <;> rw [h]))
      all_goals
        show (_ : CV) = _
        clear hf hp hin hpl
        refine congrArg CV.bool ?_
        generalize (encVls args).length = L at *
        rw [Bool.eq_iff_iff]
        (try simp_all [maxI]) <;> (try omega)
    by_cases c : k = 6
    · subst c
      show QCalls _ _ _ _ (.bool (decide (n = 0 ∧ args.length = 0)))
      rw [← encVls_length]
      refine QCalls.of Tryd.func48 rfl (fun args w => Tryd.call48 args w) (Nat.le_of_ble_eq_true rfl) [(0, .c (encTy (.mk 6 ts))), (1, .c (encVl (.mk 6 n a s args types code)))] rfl fun β hβ => ?_; have hf := Tryd.func48
      repeat' (first | refine st ?_ | (refine AK.condS rfl (fun h => ?_) (fun h => ?_) <;> first | (cases h; done) | rw [h] | skip) | refine uQ hf rfl rfl ?_ | refine uC rfl hp ?_ | ((first | refine AOps.splitT rfl rfl rfl asm (fun h => ?_) | refine AOps.splitF rfl rfl rfl asm (fun h => ?_) | refine AOps.split rfl rfl rfl (fun h => ?_) (fun h => ?_)) <;> (fail_if_success (cases h; done)) <;> rw [h]))
      all_goals
        show (_ : CV) = _
        clear hf hp hin hpl
        refine congrArg CV.bool ?_
        generalize (encVls args).length = L at *
        rw [Bool.eq_iff_iff]
        (try simp_all [maxI]) <;> (try omega)
    by_cases c : k = 2
    · subst c
      show QCalls _ _ _ _ (.bool (decide (0 ≤ n ∧ n ≤ 1 ∧ args.length = 0)))
      rw [← encVls_length]
      refine QCalls.of Tryd.func48 rfl (fun args w => Tryd.call48 args w) (Nat.le_of_ble_eq_true rfl) [(0, .c (encTy (.mk 2 ts))), (1, .c (encVl (.mk 2 n a s args types code)))] rfl fun β hβ => ?_; have hf := Tryd.func48
      repeat' (first | refine st ?_ | (refine AK.condS rfl (fun h => ?_) (fun h => ?_) <;> first | (cases h; done) | rw [h] | skip) | refine uQ hf rfl rfl ?_ | refine uC rfl hp ?_ | ((first | refine AOps.splitT rfl rfl rfl asm (fun h => ?_) | refine AOps.splitF rfl rfl rfl asm (fun h => ?_) | refine AOps.split rfl rfl rfl (fun h => ?_) (fun h => ?_)) <;> (fail_if_success (cases h; done)) <;> rw [h]))
      all_goals
        show (_ : CV) = _
        clear hf hp hin hpl
        refine congrArg CV.bool ?_
        generalize (encVls args).length = L at *
        rw [Bool.eq_iff_iff]
        (try simp_all [maxI]) <;> (try omega)
    by_cases c : k = 3
    · subst c
      show QCalls _ _ _ _ (.bool (decide (-maxI ≤ n ∧ n ≤ maxI ∧ args.length = 0)))
      have h1 := In_calls n
      rw [nIn_dec] at h1
      rw [← encVls_length]
      refine QCalls.of Tryd.func48 rfl (fun args w => Tryd.call48 args w) (Nat.le_of_ble_eq_true rfl) [(0, .c (encTy (.mk 3 ts))), (1, .c (encVl (.mk 3 n a s args types code)))] rfl fun β hβ => ?_; have hf := Tryd.func48
      repeat' (first | refine st ?_ | (refine AK.condS rfl (fun h => ?_) (fun h => ?_) <;> first | (cases h; done) | rw [h] | skip) | refine uQ hf rfl rfl ?_ | refine uC rfl hp ?_ | refine uC rfl h1 ?_ | ((first | refine AOps.splitT rfl rfl rfl asm (fun h => ?_) | refine AOps.splitF rfl rfl rfl asm (fun h => ?_) | refine AOps.split rfl rfl rfl (fun h => ?_) (fun h => ?_)) <;> (fail_if_success (cases h; done)) <;> rw [h]))
      all_goals
        show (_ : CV) = _
        clear hf hp hin hpl h1
        refine congrArg CV.bool ?_
        generalize (encVls args).length = L at *
        rw [Bool.eq_iff_iff]
        (try simp_all [maxI]) <;> (try omega)
    by_cases c : k = 4
    · subst c
      show QCalls _ _ _ _ (.bool (decide (0 ≤ n ∧ n ≤ maxI ∧ args.length = 0)))
      have h1 := In_calls n
      rw [nIn_dec] at h1
      rw [← encVls_length]
      refine QCalls.of Tryd.func48 rfl (fun args w => Tryd.call48 args w) (Nat.le_of_ble_eq_true rfl) [(0, .c (encTy (.mk 4 ts))), (1, .c (encVl (.mk 4 n a s args types code)))] rfl fun β hβ => ?_; have hf := Tryd.func48
      repeat' (first | refine st ?_ | (refine AK.condS rfl (fun h => ?_) (fun h => ?_) <;> first | (cases h; done) | rw [h] | skip) | refine uQ hf rfl rfl ?_ | refine uC rfl hp ?_ | refine uC rfl h1 ?_ | ((first | refine AOps.splitT rfl rfl rfl asm (fun h => ?_) | refine AOps.splitF rfl rfl rfl asm (fun h => ?_) | refine AOps.split rfl rfl rfl (fun h => ?_) (fun h => ?_)) <;> (fail_if_success (cases h; done)) <;> rw [h]))
      all_goals
        show (_ : CV) = _
        clear hf hp hin hpl h1
        refine congrArg CV.bool ?_
        generalize (encVls args).length = L at *
        rw [Bool.eq_iff_iff]
        (try simp_all [maxI]) <;> (try omega)
    by_cases c : k = 5
    · subst c
      show QCalls _ _ _ _ (.bool (decide (0 ≤ n ∧ n ≤ maxI ∧ args.length = 0)))
      have h1 := In_calls n
      rw [nIn_dec] at h1
      rw [← encVls_length]
      refine QCalls.of Tryd.func48 rfl (fun args w => Tryd.call48 args w) (Nat.le_of_ble_eq_true rfl) [(0, .c (encTy (.mk 5 ts))), (1, .c (encVl (.mk 5 n a s args types code)))] rfl fun β hβ => ?_; have hf := Tryd.func48
      repeat' (first | refine st ?_ | (refine AK.condS rfl (fun h => ?_) (fun h => ?_) <;> first | (cases h; done) | rw [h] | skip) | refine uQ hf rfl rfl ?_ | refine uC rfl hp ?_ | refine uC rfl h1 ?_ | ((first | refine AOps.splitT rfl rfl rfl asm (fun h => ?_) | refine AOps.splitF rfl rfl rfl asm (fun h => ?_) | refine AOps.split rfl rfl rfl (fun h => ?_) (fun h => ?_)) <;> (fail_if_success (cases h; done)) <;> rw [h]))
      all_goals
        show (_ : CV) = _
        clear hf hp hin hpl h1
        refine congrArg CV.bool ?_
        generalize (encVls args).length = L at *
        rw [Bool.eq_iff_iff]
        (try simp_all [maxI]) <;> (try omega)
    by_cases c : k = 7
    · subst c
      show QCalls _ _ _ _ (.bool (decide (0 ≤ n ∧ n < 12 ∧ args.length = 0)))
      have h1 := address_calls n
      rw [← encVls_length]
      refine QCalls.of Tryd.func48 rfl (fun args w => Tryd.call48 args w) (Nat.le_of_ble_eq_true rfl) [(0, .c (encTy (.mk 7 ts))), (1, .c (encVl (.mk 7 n a s args types code)))] rfl fun β hβ => ?_; have hf := Tryd.func48
      repeat' (first | refine st ?_ | (refine AK.condS rfl (fun h => ?_) (fun h => ?_) <;> first | (cases h; done) | rw [h] | skip) | refine uQ hf rfl rfl ?_ | refine uC rfl hp ?_ | refine uC rfl h1 ?_ | ((first | refine AOps.splitT rfl rfl rfl asm (fun h => ?_) | refine AOps.splitF rfl rfl rfl asm (fun h => ?_) | refine AOps.split rfl rfl rfl (fun h => ?_) (fun h => ?_)) <;> (fail_if_success (cases h; done)) <;> rw [h]))
      all_goals
        show (_ : CV) = _
        clear hf hp hin hpl h1
        refine congrArg CV.bool ?_
        generalize (encVls args).length = L at *
        rw [Bool.eq_iff_iff]
        (try simp_all [maxI]) <;> (try omega)
    by_cases c : k = 9
    · subst c
      show QCalls _ _ _ _ (.bool (decide (n = 0 ∧ args.length ≤ 1) && vHasAll args (tyArg (.mk 9 ts) 0)))
      obtain ⟨u, rfl⟩ := tlen1 (show ts.length = 1 by have : arity 9 = 1 := by decide
                                                      omega)
      show QCalls _ _ _ _ (.bool (decide (n = 0 ∧ args.length ≤ 1) && vHasAll args u))
      have hu : tBad u = false := tBads_mem hbs (by simp)
      have hus : tySize u ≤ 8589934593 := by have := tysSize_mem (l := [u]) (x := u) (by simp); omega
      have h1 := each_calls u args (fun x hx => hin x hx u hu hus) (by omega)
      have g1 : [u][0]? = some u := rfl
      obtain ⟨U, us⟩ := u
      refine QCalls.of Tryd.func48 rfl (fun args w => Tryd.call48 args w) (Nat.le_of_ble_eq_true rfl) [(0, .c (encTy (.mk 9 [.mk U us]))), (1, .c (encVl (.mk 9 n a s args types code)))] rfl fun β hβ => ?_; have hf := Tryd.func48
      repeat' (first | refine st ?_ | (refine AK.condS rfl (fun h => ?_) (fun h => ?_) <;> first | (cases h; done) | rw [h] | skip) | refine uQ hf rfl rfl ?_ | refine uC rfl hp ?_ | refine uC rfl h1 ?_ | refine uI rfl (0) rfl (tys_at g1) rfl ?_ | ((first | refine AOps.splitT rfl rfl rfl asm (fun h => ?_) | refine AOps.splitF rfl rfl rfl asm (fun h => ?_) | refine AOps.split rfl rfl rfl (fun h => ?_) (fun h => ?_)) <;> (fail_if_success (cases h; done)) <;> rw [h]))
      all_goals
        show (_ : CV) = _
        clear hf hp hin hpl h1
        (try simp_all [encVls_length]) <;> (try omega)
    by_cases c : k = 10
    · subst c
      show QCalls _ _ _ _ (.bool (decide (n = 0 ∧ args.length ≤ 24) && vHasAll args (tyArg (.mk 10 ts) 0)))
      obtain ⟨u, rfl⟩ := tlen1 (show ts.length = 1 by have : arity 10 = 1 := by decide
                                                      omega)
      show QCalls _ _ _ _ (.bool (decide (n = 0 ∧ args.length ≤ 24) && vHasAll args u))
      have hu : tBad u = false := tBads_mem hbs (by simp)
      have hus : tySize u ≤ 8589934593 := by have := tysSize_mem (l := [u]) (x := u) (by simp); omega
      have h1 := each_calls u args (fun x hx => hin x hx u hu hus) (by omega)
      have g1 : [u][0]? = some u := rfl
      obtain ⟨U, us⟩ := u
      refine QCalls.of Tryd.func48 rfl (fun args w => Tryd.call48 args w) (Nat.le_of_ble_eq_true rfl) [(0, .c (encTy (.mk 10 [.mk U us]))), (1, .c (encVl (.mk 10 n a s args types code)))] rfl fun β hβ => ?_; have hf := Tryd.func48
      repeat' (first | refine st ?_ | (refine AK.condS rfl (fun h => ?_) (fun h => ?_) <;> first | (cases h; done) | rw [h] | skip) | refine uQ hf rfl rfl ?_ | refine uC rfl hp ?_ | refine uC rfl h1 ?_ | refine uI rfl (0) rfl (tys_at g1) rfl ?_ | ((first | refine AOps.splitT rfl rfl rfl asm (fun h => ?_) | refine AOps.splitF rfl rfl rfl asm (fun h => ?_) | refine AOps.split rfl rfl rfl (fun h => ?_) (fun h => ?_)) <;> (fail_if_success (cases h; done)) <;> rw [h]))
      all_goals
        show (_ : CV) = _
        clear hf hp hin hpl h1
        (try simp_all [encVls_length]) <;> (try omega)
    by_cases c : k = 11
    · subst c
      show QCalls _ _ _ _ (.bool (decide (n = 0 ∧ args.length = 2) && vHasRow args ts))
      obtain ⟨u, u', rfl⟩ := tlen2 (show ts.length = 2 by have : arity 11 = 2 := by decide
                                                          omega)
      by_cases hl : args.length = 2
      · obtain ⟨x, y, rfl⟩ := len2 hl
        have hu : tBad u = false := tBads_mem hbs (by simp)
        have hu' : tBad u' = false := tBads_mem hbs (by simp)
        have hus : tySize u ≤ 8589934593 := by have := tysSize_mem (l := [u, u']) (x := u) (by simp); omega
        have hus' : tySize u' ≤ 8589934593 := by have := tysSize_mem (l := [u, u']) (x := u') (by simp); omega
        have h1 := hin x (by simp) u hu hus
        have h2 := hin y (by simp) u' hu' hus'
        have g1 : [u, u'][0]? = some u := rfl
        have g2 : [u, u'][1]? = some u' := rfl
        have g3 : [x, y][0]? = some x := rfl
        have g4 : [x, y][1]? = some y := rfl
        have e5 : (decide (n = 0 ∧ [x, y].length = 2) && vHasRow [x, y] [u, u']) = (decide (n = 0) && (vHas x u && vHas y u')) := by
          rw [show vHasRow [x, y] [u, u'] = (vHas x u && vHas y u') from by unfold vHasRow; unfold vHasRow; unfold vHasRow; simp]; simp
        rw [e5]
        clear e5 hpl
        generalize vHas x u = b1 at h1
        generalize vHas y u' = b2 at h2
        obtain ⟨U, us⟩ := u
        obtain ⟨U', us'⟩ := u'
        obtain ⟨x1, x2, x3, x4, x5, x6, x7⟩ := x
        obtain ⟨y1, y2, y3, y4, y5, y6, y7⟩ := y
        refine QCalls.of Tryd.func48 rfl (fun args w => Tryd.call48 args w) (Nat.le_of_ble_eq_true rfl) [(0, .c (encTy (.mk 11 [.mk U us, .mk U' us']))), (1, .c (encVl (.mk 11 n a s [.mk x1 x2 x3 x4 x5 x6 x7, .mk y1 y2 y3 y4 y5 y6 y7] types code)))] rfl fun β hβ => ?_; have hf := Tryd.func48
        repeat' (first | refine st ?_ | (refine AK.condS rfl (fun h => ?_) (fun h => ?_) <;> first | (cases h; done) | rw [h] | skip) | refine uQ hf rfl rfl ?_ | refine uC rfl hp ?_ | refine uC rfl h1 ?_ | refine uC rfl h2 ?_ | refine uI rfl (0) rfl (tys_at g1) rfl ?_ | refine uI rfl (1) rfl (tys_at g2) rfl ?_ | refine uI rfl (0) rfl (vls_at g3) rfl ?_ | refine uI rfl (1) rfl (vls_at g4) rfl ?_ | ((first | refine AOps.splitT rfl rfl rfl asm (fun h => ?_) | refine AOps.splitF rfl rfl rfl asm (fun h => ?_) | refine AOps.split rfl rfl rfl (fun h => ?_) (fun h => ?_)) <;> (fail_if_success (cases h; done)) <;> rw [h]))
        all_goals
          show (_ : CV) = _
          clear hf hp hin h1 h2
          simp_all [encVls_length]
          try (intro hb1; cases b1 <;> simp_all)
      · have e5 : ((((encVls args).length : Nat) : Int) == 2) = false := by rw [encVls_length]; simp; omega
        refine QCalls.of Tryd.func48 rfl (fun args w => Tryd.call48 args w) (Nat.le_of_ble_eq_true rfl) [(0, .c (encTy (.mk 11 [u, u']))), (1, .c (encVl (.mk 11 n a s args types code)))] rfl fun β hβ => ?_; have hf := Tryd.func48
        repeat' (first | refine st ?_ | (refine AK.condS rfl (fun h => ?_) (fun h => ?_) <;> first | (cases h; done) | rw [h] | skip) | refine uQ hf rfl rfl ?_ | refine uC rfl hp ?_ | ((first | refine AOps.splitT rfl rfl rfl asm (fun h => ?_) | refine AOps.splitF rfl rfl rfl asm (fun h => ?_) | refine AOps.split rfl rfl rfl (fun h => ?_) (fun h => ?_)) <;> (fail_if_success (cases h; done)) <;> rw [h]))
        all_goals
          show (_ : CV) = _
          clear hf hp hin hpl
          simp_all
    by_cases c : k = 12
    · subst c
      show QCalls _ _ _ _ (.bool (decide (0 ≤ n ∧ n ≤ 1 ∧ args.length = 1) && vHasAll args (tyArg (.mk 12 ts) n.toNat)))
      obtain ⟨u, u', rfl⟩ := tlen2 (show ts.length = 2 by have : arity 12 = 2 := by decide
                                                          omega)
      by_cases hl : args.length = 1
      · obtain ⟨x, rfl⟩ := len1 hl
        have hu : tBad u = false := tBads_mem hbs (by simp)
        have hu' : tBad u' = false := tBads_mem hbs (by simp)
        have hus : tySize u ≤ 8589934593 := by have := tysSize_mem (l := [u, u']) (x := u) (by simp); omega
        have hus' : tySize u' ≤ 8589934593 := by have := tysSize_mem (l := [u, u']) (x := u') (by simp); omega
        have h1 := hin x (by simp) u hu hus
        have h2 := hin x (by simp) u' hu' hus'
        have g1 : [u, u'][0]? = some u := rfl
        have g2 : [u, u'][1]? = some u' := rfl
        have g3 : [x][0]? = some x := rfl
        have ev : ∀ w, vHasAll [x] w = vHas x w := fun w => by unfold vHasAll; unfold vHasAll; simp
        rw [ev]
        clear ev hpl
        by_cases n0 : n = 0
        · subst n0
          show QCalls _ _ _ _ (.bool (decide ((0 : Int) ≤ 0 ∧ (0 : Int) ≤ 1 ∧ [x].length = 1) && vHas x u))
          clear h2
          generalize vHas x u = b1 at h1
          obtain ⟨U, us⟩ := u
          obtain ⟨x1, x2, x3, x4, x5, x6, x7⟩ := x
          refine QCalls.of Tryd.func48 rfl (fun args w => Tryd.call48 args w) (Nat.le_of_ble_eq_true rfl) [(0, .c (encTy (.mk 12 [.mk U us, u']))), (1, .c (encVl (.mk 12 0 a s [.mk x1 x2 x3 x4 x5 x6 x7] types code)))] rfl fun β hβ => ?_; have hf := Tryd.func48
          repeat' (first | refine st ?_ | (refine AK.condS rfl (fun h => ?_) (fun h => ?_) <;> first | (cases h; done) | rw [h] | skip) | refine uQ hf rfl rfl ?_ | refine uC rfl hp ?_ | refine uC rfl h1 ?_ | refine uI rfl (0) rfl (tys_at g1) rfl ?_ | refine uI rfl (0) rfl (vls_at g3) rfl ?_ | ((first | refine AOps.splitT rfl rfl rfl asm (fun h => ?_) | refine AOps.splitF rfl rfl rfl asm (fun h => ?_) | refine AOps.split rfl rfl rfl (fun h => ?_) (fun h => ?_)) <;> (fail_if_success (cases h; done)) <;> rw [h]))
          all_goals
            show (_ : CV) = _
            clear hf hp hin h1
            simp_all [encVls_length]
        by_cases n1 : n = 1
        · subst n1
          show QCalls _ _ _ _ (.bool (decide ((0 : Int) ≤ 1 ∧ (1 : Int) ≤ 1 ∧ [x].length = 1) && vHas x u'))
          clear h1
          generalize vHas x u' = b1 at h2
          obtain ⟨U, us⟩ := u'
          obtain ⟨x1, x2, x3, x4, x5, x6, x7⟩ := x
          refine QCalls.of Tryd.func48 rfl (fun args w => Tryd.call48 args w) (Nat.le_of_ble_eq_true rfl) [(0, .c (encTy (.mk 12 [u, .mk U us]))), (1, .c (encVl (.mk 12 1 a s [.mk x1 x2 x3 x4 x5 x6 x7] types code)))] rfl fun β hβ => ?_; have hf := Tryd.func48
          repeat' (first | refine st ?_ | (refine AK.condS rfl (fun h => ?_) (fun h => ?_) <;> first | (cases h; done) | rw [h] | skip) | refine uQ hf rfl rfl ?_ | refine uC rfl hp ?_ | refine uC rfl h2 ?_ | refine uI rfl (1) rfl (tys_at g2) rfl ?_ | refine uI rfl (0) rfl (vls_at g3) rfl ?_ | ((first | refine AOps.splitT rfl rfl rfl asm (fun h => ?_) | refine AOps.splitF rfl rfl rfl asm (fun h => ?_) | refine AOps.split rfl rfl rfl (fun h => ?_) (fun h => ?_)) <;> (fail_if_success (cases h; done)) <;> rw [h]))
          all_goals
            show (_ : CV) = _
            clear hf hp hin h2
            simp_all [encVls_length]
        · rw [show decide (0 ≤ n ∧ n ≤ 1 ∧ [x].length = 1) = false from by simp; omega, Bool.false_and]
          by_cases n2 : n < 0
          · have e5 : decide (n ≥ 0) = false := by simp; omega
            refine QCalls.of Tryd.func48 rfl (fun args w => Tryd.call48 args w) (Nat.le_of_ble_eq_true rfl) [(0, .c (encTy (.mk 12 [u, u']))), (1, .c (encVl (.mk 12 n a s [x] types code)))] rfl fun β hβ => ?_; have hf := Tryd.func48
            exact dq
          · have e5 : decide (n ≥ 0) = true := by simp; omega
            have e6 : decide (n ≤ 1) = false := by simp; omega
            refine QCalls.of Tryd.func48 rfl (fun args w => Tryd.call48 args w) (Nat.le_of_ble_eq_true rfl) [(0, .c (encTy (.mk 12 [u, u']))), (1, .c (encVl (.mk 12 n a s [x] types code)))] rfl fun β hβ => ?_; have hf := Tryd.func48
            exact dq
      · have e5 : ((((encVls args).length : Nat) : Int) == 1) = false := by rw [encVls_length]; simp; omega
        refine QCalls.of Tryd.func48 rfl (fun args w => Tryd.call48 args w) (Nat.le_of_ble_eq_true rfl) [(0, .c (encTy (.mk 12 [u, u']))), (1, .c (encVl (.mk 12 n a s args types code)))] rfl fun β hβ => ?_; have hf := Tryd.func48
        repeat' (first | refine st ?_ | (refine AK.condS rfl (fun h => ?_) (fun h => ?_) <;> first | (cases h; done) | rw [h] | skip) | refine uQ hf rfl rfl ?_ | refine uC rfl hp ?_ | ((first | refine AOps.splitT rfl rfl rfl asm (fun h => ?_) | refine AOps.splitF rfl rfl rfl asm (fun h => ?_) | refine AOps.split rfl rfl rfl (fun h => ?_) (fun h => ?_)) <;> (fail_if_success (cases h; done)) <;> rw [h]))
        all_goals
          show (_ : CV) = _
          clear hf hp hin hpl
          simp_all
    by_cases c : k = 13
    · subst c
      show QCalls _ _ _ _ (.bool (decide (n = 0 ∧ args.length ≤ 24) && mapB (.mk 11 ts) none args))
      by_cases n0 : n = 0
      rotate_left
      · have e5 : (n != 0) = true := by simpa using n0
        rw [show decide (n = 0 ∧ args.length ≤ 24) = false from by simp [n0], Bool.false_and]
        refine QCalls.of Tryd.func48 rfl (fun args w => Tryd.call48 args w) (Nat.le_of_ble_eq_true rfl) [(0, .c (encTy (.mk 13 ts))), (1, .c (encVl (.mk 13 n a s args types code)))] rfl fun β hβ => ?_; have hf := Tryd.func48
        exact dq
      subst n0
      by_cases hl : args.length ≤ 24
      rotate_left
      · have e5 : decide ((((encVls args).length : Nat) : Int) > 24) = true := by rw [encVls_length]; simp; omega
        rw [show decide ((0 : Int) = 0 ∧ args.length ≤ 24) = false from by simp; omega, Bool.false_and]
        refine QCalls.of Tryd.func48 rfl (fun args w => Tryd.call48 args w) (Nat.le_of_ble_eq_true rfl) [(0, .c (encTy (.mk 13 ts))), (1, .c (encVl (.mk 13 0 a s args types code)))] rfl fun β hβ => ?_; have hf := Tryd.func48
        exact dq
      have e5 : decide ((((encVls args).length : Nat) : Int) > 24) = false := by rw [encVls_length]; simp; omega
      rw [show decide ((0 : Int) = 0 ∧ args.length ≤ 24) = true from by simp [hl], Bool.true_and]
      obtain ⟨u, u', rfl⟩ := tlen2 (show ts.length = 2 by have : arity 13 = 2 := by decide
                                                          omega)
      have hu : tBad u = false := tBads_mem hbs (by simp)
      have hpb : tBad (.mk 11 [u, u']) = false := by
        simp only [tBad, Bool.or_eq_false_iff]; exact ⟨by show decide (arity 11 ≠ 2) = false; decide, hbs⟩
      have hps : tySize (.mk 11 [u, u']) ≤ 8589934593 := by simp only [tySize]; omega
      clear hpl
      refine QCalls.of Tryd.func48 rfl (fun args w => Tryd.call48 args w) (Nat.le_of_ble_eq_true rfl) [(0, .c (encTy (.mk 13 [u, u']))), (1, .c (encVl (.mk 13 0 a s args types code)))] rfl fun β hβ => ?_; have hf := Tryd.func48
      repeat' (first | refine st ?_ | (refine AK.condS rfl (fun h => ?_) (fun h => ?_) <;> first | (cases h; done) | rw [h] | skip) | refine uQ hf rfl rfl ?_ | refine uC rfl hp ?_ | ((first | refine AOps.splitT rfl rfl rfl asm (fun h => ?_) | refine AOps.splitF rfl rfl rfl asm (fun h => ?_) | refine AOps.split rfl rfl rfl (fun h => ?_) (fun h => ?_)) <;> (fail_if_success (cases h; done)) <;> rw [h]))
      refine AK.loopE (α := Nat) (fun i => i ≤ args.length ∧ mapB (.mk 11 [u, u']) none args = mapB (.mk 11 [u, u']) (pre args i) (args.drop i) ∧ ∀ p, pre args i = some p → p ∈ args ∧ vHas p (.mk 11 [u, u']) = true) (fun i => args.length - i)
        (fun i => [(192, .c (.int .i64 i)), (191, .c (.int .i64 (encVls args).length)), (190, .c (.sl 7 (encVls args))), (2, .ptr 2 0), (3, .ptr 3 0)])
        (fun _ => [(2, [.c (.int .i64 13), .c (.sl 2 (encTys [u, u']))]), (3, [.c (.int .i64 13), .c (.int .i64 0), .c (.int .i64 a), .c (.str s), .c (.sl 7 (encVls args)), .c (.sl 2 (encTys types)), .c (.sl 5 (encNds code))])]) (fun _ => []) [2, 3] 0
        ⟨by omega, rfl, fun p h => by simp [pre] at h⟩ ⟨.inl rfl, .inl rfl, .inl rfl, .inl rfl, .inl rfl, trivial⟩ ⟨rfl, rfl, trivial⟩ trivial rfl rfl rfl ?_
      rintro i ⟨hi, hinv, hpre⟩ ih
      rcases get_or args i hi with ⟨x, hx, hm⟩ | he
      · have hc := vls_lt hx
        have hq := hin x hm _ hpb hps
        have hlt := lt_of_get hx
        rw [drop_at hx] at hinv
        have hnx : pre args (i + 1) = some x := by simp only [pre, Nat.add_one_ne_zero, if_false, Nat.add_sub_cancel]; exact hx
        by_cases hxh : vHas x (.mk 11 [u, u']) = true
        rotate_left
        · have hxf : vHas x (.mk 11 [u, u']) = false := by simpa using hxh
          rw [hxf] at hq
          have h0 : mapB (.mk 11 [u, u']) none args = false := by
            rw [hinv]; cases pre args i <;> simp only [mapB_some_cons, mapB_none_cons, hxf, Bool.false_and]
          rw [h0]
          clear hinv h0
          obtain ⟨x1, x2, x3, x4, x5, x6, x7⟩ := x
          have tsr1 := vls_at hx
          exact dq
        · rw [hxh] at hq
          obtain ⟨x2, x3, x4, x6, x7, xk, xv, rfl, hxk, hxv⟩ := has11 hxh
          by_cases i0 : i = 0
          · subst i0
            have hinv' : mapB (.mk 11 [u, u']) none args = mapB (.mk 11 [u, u']) (some (.mk 11 x2 x3 x4 [xk, xv] x6 x7)) (args.drop 1) := by
              rw [hinv]; simp only [pre, if_true, mapB_none_cons, hxh, Bool.true_and]
            repeat' (first | refine st ?_ | (refine AK.condS rfl (fun h => ?_) (fun h => ?_) <;> first | (cases h; done) | rw [h] | skip) | refine uQ hf rfl rfl ?_ | refine uI rfl (0) rfl (vls_at hx) rfl ?_ | refine uC rfl hq ?_ | ((first | refine AOps.splitT rfl rfl rfl asm (fun h => ?_) | refine AOps.splitF rfl rfl rfl asm (fun h => ?_) | refine AOps.split rfl rfl rfl (fun h => ?_) (fun h => ?_)) <;> (fail_if_success (cases h; done)) <;> rw [h]))
            refine AK.again (ih 1 ⟨hlt, ?_, ?_⟩ (by omega)) ⟨.inl rfl, .inl rfl, .inl rfl, .inl rfl, .inl rfl, trivial⟩ ⟨rfl, rfl, trivial⟩ trivial rfl rfl rfl
            · rw [hinv', hnx]
            · intro p hp; rw [hnx] at hp; cases hp; exact ⟨hm, hxh⟩
          · have ei : decide (((i : Nat) : Int) > 0) = true := by simp; omega
            obtain ⟨p, hpp⟩ : ∃ p, args[i - 1]? = some p := ⟨args[i - 1]'(by omega), by simp⟩
            have hpi : pre args i = some p := by simp only [pre, if_neg i0]; exact hpp
            obtain ⟨hpm, hph⟩ := hpre p hpi
            have hws : IntKind.i64.wrap (((i : Nat) : Int) - 1) = ((i - 1 : Nat) : Int) := by rw [w64 (by omega) (by omega)]; omega
            have hpsz := vlsSize_mem hpm
            obtain ⟨p2, p3, p4, p6, p7, pk, pv, rfl, hpk, hpv⟩ := has11 hph
            have hcq := compare_calls pk xk u hu hpk hxk (by simp only [vlSize, vlsSize] at hpsz; omega)
            have hmb : mapB (.mk 11 [u, u']) none args = (decide (vCmp pk xk < 0) && mapB (.mk 11 [u, u']) (some (.mk 11 x2 x3 x4 [xk, xv] x6 x7)) (args.drop (i + 1))) := by
              rw [hinv, hpi]
              rw [mapB_some_cons]
              rw [hxh, Bool.true_and]; rfl
            have g1 : [pk, pv][0]? = some pk := rfl
            have g2 : [xk, xv][0]? = some xk := rfl
            by_cases hcm : vCmp pk xk < 0
            · have ec : decide (vCmp pk xk ≥ 0) = false := by simp; omega
              rw [show decide (vCmp pk xk < 0) = true from by simpa using hcm, Bool.true_and] at hmb
              obtain ⟨a1, a2, a3, a4, a5, a6, a7⟩ := xk
              obtain ⟨b1, b2, b3, b4, b5, b6, b7⟩ := pk
              repeat' (first | refine st ?_ | (refine AK.condS rfl (fun h => ?_) (fun h => ?_) <;> first | (cases h; done) | rw [h] | skip) | refine uQ hf rfl rfl ?_ | refine uI rfl (i) rfl (vls_at hx) rfl ?_ | refine uC rfl hq ?_ | refine AOps.index Tryd.hX rfl rfl rfl rfl rfl rfl rfl rfl rfl rfl (i - 1) hws (vls_at hpp) rfl ?_ | refine uI rfl (0) rfl (vls_at g1) rfl ?_ | refine uI rfl (0) rfl (vls_at g2) rfl ?_ | refine uC rfl hcq ?_ | ((first | refine AOps.splitT rfl rfl rfl asm (fun h => ?_) | refine AOps.splitF rfl rfl rfl asm (fun h => ?_) | refine AOps.split rfl rfl rfl (fun h => ?_) (fun h => ?_)) <;> (fail_if_success (cases h; done)) <;> rw [h]))
              refine AK.again (ih (i + 1) ⟨hlt, ?_, ?_⟩ (by omega)) ⟨.inl (succ64 (by omega)), .inl rfl, .inl rfl, .inl rfl, .inl rfl, trivial⟩ ⟨rfl, rfl, trivial⟩ trivial rfl rfl rfl
              · rw [hmb, hnx]
              · intro p hp; rw [hnx] at hp; cases hp; exact ⟨hm, hxh⟩
            · have ec : decide (vCmp pk xk ≥ 0) = true := by simp; omega
              rw [show decide (vCmp pk xk < 0) = false from by simpa using hcm, Bool.false_and] at hmb
              rw [hmb]
              clear hmb hinv
              obtain ⟨a1, a2, a3, a4, a5, a6, a7⟩ := xk
              obtain ⟨b1, b2, b3, b4, b5, b6, b7⟩ := pk
              repeat' (first | refine st ?_ | (refine AK.condS rfl (fun h => ?_) (fun h => ?_) <;> first | (cases h; done) | rw [h] | skip) | refine uQ hf rfl rfl ?_ | refine uI rfl (i) rfl (vls_at hx) rfl ?_ | refine uC rfl hq ?_ | refine AOps.index Tryd.hX rfl rfl rfl rfl rfl rfl rfl rfl rfl rfl (i - 1) hws (vls_at hpp) rfl ?_ | refine uI rfl (0) rfl (vls_at g1) rfl ?_ | refine uI rfl (0) rfl (vls_at g2) rfl ?_ | refine uC rfl hcq ?_ | ((first | refine AOps.splitT rfl rfl rfl asm (fun h => ?_) | refine AOps.splitF rfl rfl rfl asm (fun h => ?_) | refine AOps.split rfl rfl rfl (fun h => ?_) (fun h => ?_)) <;> (fail_if_success (cases h; done)) <;> rw [h]))
              all_goals rfl
      · have hc := vls_end he
        have h0 : mapB (.mk 11 [u, u']) none args = true := by
          rw [hinv, he, List.drop_length]; exact mapB_nil _ _
        rw [h0]
        clear ih
        exact dq
    by_cases c : k = 14
    · subst c
      show QCalls _ _ _ _ (.bool (tySame (tyArg (.mk 14 ts) 0) (types.getD 0 ty0) && tySame (tyArg (.mk 14 ts) 1) (types.getD 1 ty0)))
      obtain ⟨u, u', rfl⟩ := tlen2 (show ts.length = 2 by have : arity 14 = 2 := by decide
                                                          omega)
      obtain ⟨w, w', rfl⟩ := tlen2 (show types.length = 2 by
        have h : decide (types.length = 2 ∧ a = 0 ∧ n = 0 ∧ s = [] ∧ args.length = 0) = true := hpl
        simp only [decide_eq_true_eq] at h; exact h.1)
      show QCalls _ _ _ _ (.bool (tySame u w && tySame u' w'))
      have hus : tySize u ≤ 8589934593 := by have := tysSize_mem (l := [u, u']) (x := u) (by simp); omega
      have hus' : tySize u' ≤ 8589934593 := by have := tysSize_mem (l := [u, u']) (x := u') (by simp); omega
      have h1 := Same_calls u w (by omega)
      have h2 := Same_calls u' w' (by omega)
      have g1 : [u, u'][0]? = some u := rfl
      have g2 : [u, u'][1]? = some u' := rfl
      have g3 : [w, w'][0]? = some w := rfl
      have g4 : [w, w'][1]? = some w' := rfl
      generalize tySame u w = b1 at h1
      generalize tySame u' w' = b2 at h2
      clear hpl
      obtain ⟨u1, u2⟩ := u
      obtain ⟨u3, u4⟩ := u'
      obtain ⟨w1, w2⟩ := w
      obtain ⟨w3, w4⟩ := w'
      refine QCalls.of Tryd.func48 rfl (fun args w => Tryd.call48 args w) (Nat.le_of_ble_eq_true rfl) [(0, .c (encTy (.mk 14 [.mk u1 u2, .mk u3 u4]))), (1, .c (encVl (.mk 14 n a s args [.mk w1 w2, .mk w3 w4] code)))] rfl fun β hβ => ?_; have hf := Tryd.func48
      repeat' (first | refine st ?_ | (refine AK.condS rfl (fun h => ?_) (fun h => ?_) <;> first | (cases h; done) | rw [h] | skip) | refine uQ hf rfl rfl ?_ | refine uC rfl hp ?_ | refine uC rfl h1 ?_ | refine uC rfl h2 ?_ | refine uI rfl (0) rfl (tys_at g1) rfl ?_ | refine uI rfl (1) rfl (tys_at g2) rfl ?_ | refine uI rfl (0) rfl (tys_at g3) rfl ?_ | refine uI rfl (1) rfl (tys_at g4) rfl ?_ | ((first | refine AOps.splitT rfl rfl rfl asm (fun h => ?_) | refine AOps.splitF rfl rfl rfl asm (fun h => ?_) | refine AOps.split rfl rfl rfl (fun h => ?_) (fun h => ?_)) <;> (fail_if_success (cases h; done)) <;> rw [h]))
      all_goals
        show (_ : CV) = _
        clear hf hp hin h1 h2
        simp_all
    by_cases c : k = 15
    · subst c
      show QCalls _ _ _ _ (.bool (decide (1 ≤ n ∧ n ≤ maxI ∧ 0 ≤ a ∧ a < 12 ∧ args.length = 1) && vHasAll args (tyArg (.mk 15 ts) 0)))
      obtain ⟨u, rfl⟩ := tlen1 (show ts.length = 1 by have : arity 15 = 1 := by decide
                                                      omega)
      have h1 := In_calls n
      rw [nIn_dec] at h1
      have h2 := address_calls a
      by_cases hl : args.length = 1
      · obtain ⟨x, rfl⟩ := len1 hl
        have hu : tBad u = false := tBads_mem hbs (by simp)
        have hus : tySize u ≤ 8589934593 := by have := tysSize_mem (l := [u]) (x := u) (by simp); omega
        have h3 := hin x (by simp) u hu hus
        have g1 : [u][0]? = some u := rfl
        have g3 : [x][0]? = some x := rfl
        rw [show vHasAll [x] (tyArg (.mk 15 [u]) 0) = vHas x u from by unfold vHasAll; unfold vHasAll; simp [tyArg, tyArgs]]
        generalize vHas x u = b1 at h3
        obtain ⟨U, us⟩ := u
        obtain ⟨x1, x2, x3, x4, x5, x6, x7⟩ := x
        refine QCalls.of Tryd.func48 rfl (fun args w => Tryd.call48 args w) (Nat.le_of_ble_eq_true rfl) [(0, .c (encTy (.mk 15 [.mk U us]))), (1, .c (encVl (.mk 15 n a s [.mk x1 x2 x3 x4 x5 x6 x7] types code)))] rfl fun β hβ => ?_; have hf := Tryd.func48
        repeat' (first | refine st ?_ | (refine AK.condS rfl (fun h => ?_) (fun h => ?_) <;> first | (cases h; done) | rw [h] | skip) | refine uQ hf rfl rfl ?_ | refine uC rfl hp ?_ | refine uC rfl h1 ?_ | refine uC rfl h2 ?_ | refine uC rfl h3 ?_ | refine uI rfl (0) rfl (tys_at g1) rfl ?_ | refine uI rfl (0) rfl (vls_at g3) rfl ?_ | ((first | refine AOps.splitT rfl rfl rfl asm (fun h => ?_) | refine AOps.splitF rfl rfl rfl asm (fun h => ?_) | refine AOps.split rfl rfl rfl (fun h => ?_) (fun h => ?_)) <;> (fail_if_success (cases h; done)) <;> rw [h]))
        all_goals
          show (_ : CV) = _
          clear hf hp hin h1 h2 h3 hpl
          (try simp_all [maxI, encVls_length]) <;> (try omega)
      · have e5 : ((((encVls args).length : Nat) : Int) == 1) = false := by rw [encVls_length]; simp; omega
        refine QCalls.of Tryd.func48 rfl (fun args w => Tryd.call48 args w) (Nat.le_of_ble_eq_true rfl) [(0, .c (encTy (.mk 15 [u]))), (1, .c (encVl (.mk 15 n a s args types code)))] rfl fun β hβ => ?_; have hf := Tryd.func48
        repeat' (first | refine st ?_ | (refine AK.condS rfl (fun h => ?_) (fun h => ?_) <;> first | (cases h; done) | rw [h] | skip) | refine uQ hf rfl rfl ?_ | refine uC rfl hp ?_ | refine uC rfl h1 ?_ | refine uC rfl h2 ?_ | ((first | refine AOps.splitT rfl rfl rfl asm (fun h => ?_) | refine AOps.splitF rfl rfl rfl asm (fun h => ?_) | refine AOps.split rfl rfl rfl (fun h => ?_) (fun h => ?_)) <;> (fail_if_success (cases h; done)) <;> rw [h]))
        all_goals
          show (_ : CV) = _
          clear hf hp hin h1 h2 hpl
          simp_all
    by_cases c : k = 8
    · subst c
      show QCalls _ _ _ _ (.bool (decide (0 ≤ n ∧ n ≤ maxI ∧ 0 ≤ a ∧ a < 12 ∧ args.length = 1) && tGood (types.getD 0 ty0) && vHasAll args (types.getD 0 ty0)))
      obtain ⟨u, rfl⟩ := tlen1 (show types.length = 1 by
        have h : decide (types.length = 1 ∧ code.length = 0 ∧ s = []) = true := hpl
        simp only [decide_eq_true_eq] at h; exact h.1)
      have h1 := In_calls n
      rw [nIn_dec] at h1
      have h2 := address_calls a
      by_cases hl : args.length = 1
      · obtain ⟨x, rfl⟩ := len1 hl
        have hus : tySize u ≤ 8589934593 := by have := tysSize_mem (l := [u]) (x := u) (by simp); omega
        have hg := Good_calls u hus
        have g1 : [u][0]? = some u := rfl
        have g3 : [x][0]? = some x := rfl
        rw [show vHasAll [x] ([u].getD 0 ty0) = vHas x u from by unfold vHasAll; unfold vHasAll; simp]
        rw [getD0]
        by_cases hgd : tGood u = true
        · have h3 := hin x (by simp) u (tGood_bad hgd) hus
          rw [hgd] at hg ⊢
          generalize vHas x u = b1 at h3
          obtain ⟨U, us⟩ := u
          obtain ⟨x1, x2, x3, x4, x5, x6, x7⟩ := x
          refine QCalls.of Tryd.func48 rfl (fun args w => Tryd.call48 args w) (Nat.le_of_ble_eq_true rfl) [(0, .c (encTy (.mk 8 ts))), (1, .c (encVl (.mk 8 n a s [.mk x1 x2 x3 x4 x5 x6 x7] [.mk U us] code)))] rfl fun β hβ => ?_; have hf := Tryd.func48
          repeat' (first | refine st ?_ | (refine AK.condS rfl (fun h => ?_) (fun h => ?_) <;> first | (cases h; done) | rw [h] | skip) | refine uQ hf rfl rfl ?_ | refine uC rfl hp ?_ | refine uC rfl h1 ?_ | refine uC rfl h2 ?_ | refine uC rfl hg ?_ | refine uC rfl h3 ?_ | refine uI rfl (0) rfl (tys_at g1) rfl ?_ | refine uI rfl (0) rfl (vls_at g3) rfl ?_ | ((first | refine AOps.splitT rfl rfl rfl asm (fun h => ?_) | refine AOps.splitF rfl rfl rfl asm (fun h => ?_) | refine AOps.split rfl rfl rfl (fun h => ?_) (fun h => ?_)) <;> (fail_if_success (cases h; done)) <;> rw [h]))
          all_goals
            show (_ : CV) = _
            clear hf hp hin h1 h2 h3 hg hpl
            (try simp_all [maxI, encVls_length]) <;> (try omega)
        · have hgf : tGood u = false := by simpa using hgd
          rw [hgf] at hg ⊢
          obtain ⟨U, us⟩ := u
          refine QCalls.of Tryd.func48 rfl (fun args w => Tryd.call48 args w) (Nat.le_of_ble_eq_true rfl) [(0, .c (encTy (.mk 8 ts))), (1, .c (encVl (.mk 8 n a s [x] [.mk U us] code)))] rfl fun β hβ => ?_; have hf := Tryd.func48
          repeat' (first | refine st ?_ | (refine AK.condS rfl (fun h => ?_) (fun h => ?_) <;> first | (cases h; done) | rw [h] | skip) | refine uQ hf rfl rfl ?_ | refine uC rfl hp ?_ | refine uC rfl h1 ?_ | refine uC rfl h2 ?_ | refine uC rfl hg ?_ | refine uI rfl (0) rfl (tys_at g1) rfl ?_ | ((first | refine AOps.splitT rfl rfl rfl asm (fun h => ?_) | refine AOps.splitF rfl rfl rfl asm (fun h => ?_) | refine AOps.split rfl rfl rfl (fun h => ?_) (fun h => ?_)) <;> (fail_if_success (cases h; done)) <;> rw [h]))
          all_goals
            show (_ : CV) = _
            clear hf hp hin h1 h2 hg hpl
            simp_all [maxI]
      · have e5 : ((((encVls args).length : Nat) : Int) == 1) = false := by rw [encVls_length]; simp; omega
        refine QCalls.of Tryd.func48 rfl (fun args w => Tryd.call48 args w) (Nat.le_of_ble_eq_true rfl) [(0, .c (encTy (.mk 8 ts))), (1, .c (encVl (.mk 8 n a s args [u] code)))] rfl fun β hβ => ?_; have hf := Tryd.func48
        repeat' (first | refine st ?_ | (refine AK.condS rfl (fun h => ?_) (fun h => ?_) <;> first | (cases h; done) | rw [h] | skip) | refine uQ hf rfl rfl ?_ | refine uC rfl hp ?_ | refine uC rfl h1 ?_ | refine uC rfl h2 ?_ | ((first | refine AOps.splitT rfl rfl rfl asm (fun h => ?_) | refine AOps.splitF rfl rfl rfl asm (fun h => ?_) | refine AOps.split rfl rfl rfl (fun h => ?_) (fun h => ?_)) <;> (fail_if_success (cases h; done)) <;> rw [h]))
        all_goals
          show (_ : CV) = _
          clear hf hp hin h1 h2 hpl
          simp_all
    exfalso
    have := arity_in har
    omega
termination_by v => SizeOf.sizeOf v
decreasing_by
  have := List.sizeOf_lt_of_mem hx
  simp at this ⊢; omega
end Go.Proofs

-- WIDE
set_option linter.unusedVariables false
set_option linter.unusedSimpArgs false
namespace Go.Proofs
open Go.Abs
attribute [local irreducible] AK AOps QCalls ECalls

theorem prim_calls (p : Int) : QCalls Tryd.prog Tryd.X 22 [.int .i64 p] (.bool (primP p)) := by
  refine QCalls.of Tryd.func22 rfl (fun args w => Tryd.call22 args w) (Nat.le_of_ble_eq_true rfl) [(0, .c (.int .i64 p))] rfl fun β hβ => ?_; have hf := Tryd.func22
  repeat' (first | refine st ?_ | refine uQ hf rfl rfl ?_ | ((first | refine AOps.splitT rfl rfl rfl asm (fun h => ?_) | refine AOps.splitF rfl rfl rfl asm (fun h => ?_) | refine AOps.split rfl rfl rfl (fun h => ?_) (fun h => ?_)) <;> (fail_if_success (cases h; done)) <;> rw [h]))
  all_goals
    show (_ : CV) = _
    clear hf
    simp only [cond_true, cond_false, decide_eq_true_eq, decide_eq_false_iff_not] at *
    congr 1
    unfold primP
    first
    | (symm; apply decide_eq_true; omega)
    | (symm; apply decide_eq_false; omega)
    | (apply decide_eq_decide.2; omega)
theorem wrong_head {kind n p : Int} {s : List UInt8} {args : List Nd} {d e : Int} (h : wrong1 kind n p s args.length d = e) (he : e ≠ 0) : wrong (.mk kind n p s args) d = e := by
  simp only [wrong, h, if_neg he]
theorem wrong_tail {kind n p : Int} {s : List UInt8} {args : List Nd} {d : Int} (h : wrong1 kind n p s args.length d = 0) : wrong (.mk kind n p s args) d = wrongs args (d + 1) := by
  simp only [wrong, h, if_true]

theorem wrongs_nil (d : Int) : wrongs [] d = 0 := rfl
theorem wrongs_cons (x : Nd) (l : List Nd) (d : Int) : wrongs (x :: l) d = if wrong x d = 0 then wrongs l d else wrong x d := rfl
attribute [local irreducible] wrong wrongs

set_option maxHeartbeats 0 in
theorem wrong_calls : ∀ (t : Nd) (d : Int), ndSize t ≤ 8589934593 → 0 ≤ d → d ≤ 1099511627776 - ndSize t → QCalls Tryd.prog Tryd.X 17 [encNd t, .int .i64 d] (.int .i64 (wrong t d))
  | .mk kind n p s args => by
    intro d ht hd0 hd
    simp only [ndSize] at ht hd
    have hl1 := ndsSize_len args
    have hin : ∀ x ∈ args, QCalls Tryd.prog Tryd.X 17 [encNd x, .int .i64 (IntKind.i64.wrap (d + 1))] (.int .i64 (wrong x (d + 1))) := by
      intro x hx
      have := ndsSize_mem hx
      rw [w64 (by omega) (by omega)]
      exact wrong_calls x (d + 1) (by omega) (by omega) (by omega)
    by_cases c1 : d > 24
    · have e1 : decide (d > 24) = true := decide_eq_true c1
      rw [wrong_head (e := 4) (by simp only [wrong1, if_pos c1]) (by omega)]
      refine QCalls.of Tryd.func17 rfl (fun args w => Tryd.call17 args w) (Nat.le_of_ble_eq_true rfl) [(0, .c (encNd (.mk kind n p s args))), (1, .c (.int .i64 d))] rfl fun β hβ => ?_; have hf := Tryd.func17
      repeat' (first | refine st ?_ | (refine AK.condS rfl (fun h => ?_) (fun h => ?_) <;> first | (cases h; done) | rw [h] | skip) | refine uQ hf rfl rfl ?_ | ((first | refine AOps.splitT rfl rfl rfl asm (fun h => ?_) | refine AOps.splitF rfl rfl rfl asm (fun h => ?_) | refine AOps.split rfl rfl rfl (fun h => ?_) (fun h => ?_)) <;> (fail_if_success (cases h; done)) <;> rw [h]))
      all_goals rfl
    have e1 : decide (d > 24) = false := decide_eq_false c1
    by_cases c2 : kind < 0
    · have e2 : decide (kind < 0) = true := decide_eq_true c2
      rw [wrong_head (e := 3) (by simp only [wrong1, if_neg c1, c2, true_or, if_true]) (by omega)]
      refine QCalls.of Tryd.func17 rfl (fun args w => Tryd.call17 args w) (Nat.le_of_ble_eq_true rfl) [(0, .c (encNd (.mk kind n p s args))), (1, .c (.int .i64 d))] rfl fun β hβ => ?_; have hf := Tryd.func17
      repeat' (first | refine st ?_ | (refine AK.condS rfl (fun h => ?_) (fun h => ?_) <;> first | (cases h; done) | rw [h] | skip) | refine uQ hf rfl rfl ?_ | ((first | refine AOps.splitT rfl rfl rfl asm (fun h => ?_) | refine AOps.splitF rfl rfl rfl asm (fun h => ?_) | refine AOps.split rfl rfl rfl (fun h => ?_) (fun h => ?_)) <;> (fail_if_success (cases h; done)) <;> rw [h]))
      all_goals rfl
    have e2 : decide (kind < 0) = false := decide_eq_false c2
    by_cases c3 : kind > 3
    · have e3 : decide (kind > 3) = true := decide_eq_true c3
      rw [wrong_head (e := 3) (by simp only [wrong1, if_neg c1, c3, true_or, or_true, if_true]) (by omega)]
      refine QCalls.of Tryd.func17 rfl (fun args w => Tryd.call17 args w) (Nat.le_of_ble_eq_true rfl) [(0, .c (encNd (.mk kind n p s args))), (1, .c (.int .i64 d))] rfl fun β hβ => ?_; have hf := Tryd.func17
      repeat' (first | refine st ?_ | (refine AK.condS rfl (fun h => ?_) (fun h => ?_) <;> first | (cases h; done) | rw [h] | skip) | refine uQ hf rfl rfl ?_ | ((first | refine AOps.splitT rfl rfl rfl asm (fun h => ?_) | refine AOps.splitF rfl rfl rfl asm (fun h => ?_) | refine AOps.split rfl rfl rfl (fun h => ?_) (fun h => ?_)) <;> (fail_if_success (cases h; done)) <;> rw [h]))
      all_goals rfl
    have e3 : decide (kind > 3) = false := decide_eq_false c3
    have h4 : kind = 0 ∨ kind = 1 ∨ kind = 2 ∨ kind = 3 := by omega
    rcases h4 with rfl | rfl | rfl | rfl
    · skip
      refine QCalls.of Tryd.func17 rfl (fun args w => Tryd.call17 args w) (Nat.le_of_ble_eq_true rfl) [(0, .c (encNd (.mk 0 n p s args))), (1, .c (.int .i64 d))] rfl fun β hβ => ?_; have hf := Tryd.func17
      repeat' (first | refine st ?_ | (refine AK.condS rfl (fun h => ?_) (fun h => ?_) <;> first | (cases h; done) | rw [h] | skip) | refine uQ hf rfl rfl ?_ | refine uC rfl (prim_calls p) ?_ | ((first | refine AOps.splitT rfl rfl rfl asm (fun h => ?_) | refine AOps.splitF rfl rfl rfl asm (fun h => ?_) | refine AOps.split rfl rfl rfl (fun h => ?_) (fun h => ?_)) <;> (fail_if_success (cases h; done)) <;> rw [h]))
      all_goals first
          | (show (_ : CV) = _
             clear hf hin
             try simp only [encNds_length] at *
             congr 1
             symm
             refine wrong_head ?_ (by omega)
             unfold wrong1 maxI
             simp_all <;> (repeat' split) <;> omega)
          | skip
      all_goals
        have hw : wrong1 (0) n p s args.length d = 0 := by
          clear hf hin
          try simp only [encNds_length] at *
          unfold wrong1 maxI
          simp_all <;> (repeat' split) <;> omega
        have hT := wrong_tail hw
        clear hw
        refine AK.loopE (α := Nat) (fun i => i ≤ args.length ∧ wrongs args (d + 1) = wrongs (args.drop i) (d + 1)) (fun i => args.length - i)
          (fun i => [(88, .c (.int .i64 i)), (87, .c (.int .i64 (encNds args).length)), (86, .c (.sl 5 (encNds args))), (1, .c (.int .i64 d))]) (fun _ => []) (fun _ => []) [] 0
          ⟨by omega, rfl⟩ ⟨.inl rfl, .inl rfl, .inl rfl, .inl rfl, trivial⟩ trivial trivial rfl rfl rfl ?_
        rintro i ⟨hi, hinv⟩ ih
        rcases get_or args i hi with ⟨x, hx, hm⟩ | he
        · have hc := nds_lt hx
          have hq := hin x hm
          rw [drop_at hx, wrongs_cons] at hinv
          obtain ⟨x1, x2, x3, x4, x5⟩ := x
          by_cases h0 : wrong (.mk x1 x2 x3 x4 x5) (d + 1) = 0
          · rw [if_pos h0] at hinv
            rw [h0] at hq
            repeat' (first | refine st ?_ | (refine AK.condS rfl (fun h => ?_) (fun h => ?_) <;> first | (cases h; done) | rw [h] | skip) | refine uQ hf rfl rfl ?_ | refine uI rfl (i) rfl (nds_at hx) rfl ?_ | refine uC rfl hq ?_ | ((first | refine AOps.splitT rfl rfl rfl asm (fun h => ?_) | refine AOps.splitF rfl rfl rfl asm (fun h => ?_) | refine AOps.split rfl rfl rfl (fun h => ?_) (fun h => ?_)) <;> (fail_if_success (cases h; done)) <;> rw [h]))
            exact AK.again (ih (i + 1) ⟨lt_of_get hx, hinv⟩ (by have := lt_of_get hx; omega)) ⟨.inl (succ64 (by have := lt_of_get hx; omega)), .inl rfl, .inl rfl, .inl rfl, trivial⟩ trivial trivial rfl rfl rfl
          · rw [if_neg h0] at hinv
            have hne : (wrong (.mk x1 x2 x3 x4 x5) (d + 1) != 0) = true := by simpa using h0
            repeat' (first | refine st ?_ | (refine AK.condS rfl (fun h => ?_) (fun h => ?_) <;> first | (cases h; done) | rw [h] | skip) | refine uQ hf rfl rfl ?_ | refine uI rfl (i) rfl (nds_at hx) rfl ?_ | refine uC rfl hq ?_ | ((first | refine AOps.splitT rfl rfl rfl asm (fun h => ?_) | refine AOps.splitF rfl rfl rfl asm (fun h => ?_) | refine AOps.split rfl rfl rfl (fun h => ?_) (fun h => ?_)) <;> (fail_if_success (cases h; done)) <;> rw [h]))
            show (_ : CV) = _
            rw [hT, hinv]
        · have hc := nds_end he
          have h0 : wrongs args (d + 1) = 0 := by rw [hinv, he, List.drop_length, wrongs_nil]
          clear ih
          repeat' (first | refine st ?_ | (refine AK.condS rfl (fun h => ?_) (fun h => ?_) <;> first | (cases h; done) | rw [h] | skip) | refine uQ hf rfl rfl ?_ | ((first | refine AOps.splitT rfl rfl rfl asm (fun h => ?_) | refine AOps.splitF rfl rfl rfl asm (fun h => ?_) | refine AOps.split rfl rfl rfl (fun h => ?_) (fun h => ?_)) <;> (fail_if_success (cases h; done)) <;> rw [h]))
          show (_ : CV) = _
          rw [hT, h0]
    · skip
      refine QCalls.of Tryd.func17 rfl (fun args w => Tryd.call17 args w) (Nat.le_of_ble_eq_true rfl) [(0, .c (encNd (.mk 1 n p s args))), (1, .c (.int .i64 d))] rfl fun β hβ => ?_; have hf := Tryd.func17
      repeat' (first | refine st ?_ | (refine AK.condS rfl (fun h => ?_) (fun h => ?_) <;> first | (cases h; done) | rw [h] | skip) | refine uQ hf rfl rfl ?_ | refine uC rfl (prim_calls p) ?_ | ((first | refine AOps.splitT rfl rfl rfl asm (fun h => ?_) | refine AOps.splitF rfl rfl rfl asm (fun h => ?_) | refine AOps.split rfl rfl rfl (fun h => ?_) (fun h => ?_)) <;> (fail_if_success (cases h; done)) <;> rw [h]))
      all_goals first
          | (show (_ : CV) = _
             clear hf hin
             try simp only [encNds_length] at *
             congr 1
             symm
             refine wrong_head ?_ (by omega)
             unfold wrong1 maxI
             simp_all <;> (repeat' split) <;> omega)
          | skip
      all_goals
        have hw : wrong1 (1) n p s args.length d = 0 := by
          clear hf hin
          try simp only [encNds_length] at *
          unfold wrong1 maxI
          simp_all <;> (repeat' split) <;> omega
        have hT := wrong_tail hw
        clear hw
        refine AK.loopE (α := Nat) (fun i => i ≤ args.length ∧ wrongs args (d + 1) = wrongs (args.drop i) (d + 1)) (fun i => args.length - i)
          (fun i => [(88, .c (.int .i64 i)), (87, .c (.int .i64 (encNds args).length)), (86, .c (.sl 5 (encNds args))), (1, .c (.int .i64 d))]) (fun _ => []) (fun _ => []) [] 0
          ⟨by omega, rfl⟩ ⟨.inl rfl, .inl rfl, .inl rfl, .inl rfl, trivial⟩ trivial trivial rfl rfl rfl ?_
        rintro i ⟨hi, hinv⟩ ih
        rcases get_or args i hi with ⟨x, hx, hm⟩ | he
        · have hc := nds_lt hx
          have hq := hin x hm
          rw [drop_at hx, wrongs_cons] at hinv
          obtain ⟨x1, x2, x3, x4, x5⟩ := x
          by_cases h0 : wrong (.mk x1 x2 x3 x4 x5) (d + 1) = 0
          · rw [if_pos h0] at hinv
            rw [h0] at hq
            repeat' (first | refine st ?_ | (refine AK.condS rfl (fun h => ?_) (fun h => ?_) <;> first | (cases h; done) | rw [h] | skip) | refine uQ hf rfl rfl ?_ | refine uI rfl (i) rfl (nds_at hx) rfl ?_ | refine uC rfl hq ?_ | ((first | refine AOps.splitT rfl rfl rfl asm (fun h => ?_) | refine AOps.splitF rfl rfl rfl asm (fun h => ?_) | refine AOps.split rfl rfl rfl (fun h => ?_) (fun h => ?_)) <;> (fail_if_success (cases h; done)) <;> rw [h]))
            exact AK.again (ih (i + 1) ⟨lt_of_get hx, hinv⟩ (by have := lt_of_get hx; omega)) ⟨.inl (succ64 (by have := lt_of_get hx; omega)), .inl rfl, .inl rfl, .inl rfl, trivial⟩ trivial trivial rfl rfl rfl
          · rw [if_neg h0] at hinv
            have hne : (wrong (.mk x1 x2 x3 x4 x5) (d + 1) != 0) = true := by simpa using h0
            repeat' (first | refine st ?_ | (refine AK.condS rfl (fun h => ?_) (fun h => ?_) <;> first | (cases h; done) | rw [h] | skip) | refine uQ hf rfl rfl ?_ | refine uI rfl (i) rfl (nds_at hx) rfl ?_ | refine uC rfl hq ?_ | ((first | refine AOps.splitT rfl rfl rfl asm (fun h => ?_) | refine AOps.splitF rfl rfl rfl asm (fun h => ?_) | refine AOps.split rfl rfl rfl (fun h => ?_) (fun h => ?_)) <;> (fail_if_success (cases h; done)) <;> rw [h]))
            show (_ : CV) = _
            rw [hT, hinv]
        · have hc := nds_end he
          have h0 : wrongs args (d + 1) = 0 := by rw [hinv, he, List.drop_length, wrongs_nil]
          clear ih
          repeat' (first | refine st ?_ | (refine AK.condS rfl (fun h => ?_) (fun h => ?_) <;> first | (cases h; done) | rw [h] | skip) | refine uQ hf rfl rfl ?_ | ((first | refine AOps.splitT rfl rfl rfl asm (fun h => ?_) | refine AOps.splitF rfl rfl rfl asm (fun h => ?_) | refine AOps.split rfl rfl rfl (fun h => ?_) (fun h => ?_)) <;> (fail_if_success (cases h; done)) <;> rw [h]))
          show (_ : CV) = _
          rw [hT, h0]
    · skip
      refine QCalls.of Tryd.func17 rfl (fun args w => Tryd.call17 args w) (Nat.le_of_ble_eq_true rfl) [(0, .c (encNd (.mk 2 n p s args))), (1, .c (.int .i64 d))] rfl fun β hβ => ?_; have hf := Tryd.func17
      repeat' (first | refine st ?_ | (refine AK.condS rfl (fun h => ?_) (fun h => ?_) <;> first | (cases h; done) | rw [h] | skip) | refine uQ hf rfl rfl ?_ | refine uC rfl (prim_calls p) ?_ | ((first | refine AOps.splitT rfl rfl rfl asm (fun h => ?_) | refine AOps.splitF rfl rfl rfl asm (fun h => ?_) | refine AOps.split rfl rfl rfl (fun h => ?_) (fun h => ?_)) <;> (fail_if_success (cases h; done)) <;> rw [h]))
      all_goals first
          | (show (_ : CV) = _
             clear hf hin
             try simp only [encNds_length] at *
             congr 1
             symm
             refine wrong_head ?_ (by omega)
             unfold wrong1 maxI
             simp_all <;> (repeat' split) <;> omega)
          | skip
      all_goals
        have hw : wrong1 (2) n p s args.length d = 0 := by
          clear hf hin
          try simp only [encNds_length] at *
          unfold wrong1 maxI
          simp_all <;> (repeat' split) <;> omega
        have hT := wrong_tail hw
        clear hw
        refine AK.loopE (α := Nat) (fun i => i ≤ args.length ∧ wrongs args (d + 1) = wrongs (args.drop i) (d + 1)) (fun i => args.length - i)
          (fun i => [(88, .c (.int .i64 i)), (87, .c (.int .i64 (encNds args).length)), (86, .c (.sl 5 (encNds args))), (1, .c (.int .i64 d))]) (fun _ => []) (fun _ => []) [] 0
          ⟨by omega, rfl⟩ ⟨.inl rfl, .inl rfl, .inl rfl, .inl rfl, trivial⟩ trivial trivial rfl rfl rfl ?_
        rintro i ⟨hi, hinv⟩ ih
        rcases get_or args i hi with ⟨x, hx, hm⟩ | he
        · have hc := nds_lt hx
          have hq := hin x hm
          rw [drop_at hx, wrongs_cons] at hinv
          obtain ⟨x1, x2, x3, x4, x5⟩ := x
          by_cases h0 : wrong (.mk x1 x2 x3 x4 x5) (d + 1) = 0
          · rw [if_pos h0] at hinv
            rw [h0] at hq
            repeat' (first | refine st ?_ | (refine AK.condS rfl (fun h => ?_) (fun h => ?_) <;> first | (cases h; done) | rw [h] | skip) | refine uQ hf rfl rfl ?_ | refine uI rfl (i) rfl (nds_at hx) rfl ?_ | refine uC rfl hq ?_ | ((first | refine AOps.splitT rfl rfl rfl asm (fun h => ?_) | refine AOps.splitF rfl rfl rfl asm (fun h => ?_) | refine AOps.split rfl rfl rfl (fun h => ?_) (fun h => ?_)) <;> (fail_if_success (cases h; done)) <;> rw [h]))
            exact AK.again (ih (i + 1) ⟨lt_of_get hx, hinv⟩ (by have := lt_of_get hx; omega)) ⟨.inl (succ64 (by have := lt_of_get hx; omega)), .inl rfl, .inl rfl, .inl rfl, trivial⟩ trivial trivial rfl rfl rfl
          · rw [if_neg h0] at hinv
            have hne : (wrong (.mk x1 x2 x3 x4 x5) (d + 1) != 0) = true := by simpa using h0
            repeat' (first | refine st ?_ | (refine AK.condS rfl (fun h => ?_) (fun h => ?_) <;> first | (cases h; done) | rw [h] | skip) | refine uQ hf rfl rfl ?_ | refine uI rfl (i) rfl (nds_at hx) rfl ?_ | refine uC rfl hq ?_ | ((first | refine AOps.splitT rfl rfl rfl asm (fun h => ?_) | refine AOps.splitF rfl rfl rfl asm (fun h => ?_) | refine AOps.split rfl rfl rfl (fun h => ?_) (fun h => ?_)) <;> (fail_if_success (cases h; done)) <;> rw [h]))
            show (_ : CV) = _
            rw [hT, hinv]
        · have hc := nds_end he
          have h0 : wrongs args (d + 1) = 0 := by rw [hinv, he, List.drop_length, wrongs_nil]
          clear ih
          repeat' (first | refine st ?_ | (refine AK.condS rfl (fun h => ?_) (fun h => ?_) <;> first | (cases h; done) | rw [h] | skip) | refine uQ hf rfl rfl ?_ | ((first | refine AOps.splitT rfl rfl rfl asm (fun h => ?_) | refine AOps.splitF rfl rfl rfl asm (fun h => ?_) | refine AOps.split rfl rfl rfl (fun h => ?_) (fun h => ?_)) <;> (fail_if_success (cases h; done)) <;> rw [h]))
          show (_ : CV) = _
          rw [hT, h0]
    · skip
      refine QCalls.of Tryd.func17 rfl (fun args w => Tryd.call17 args w) (Nat.le_of_ble_eq_true rfl) [(0, .c (encNd (.mk 3 n p s args))), (1, .c (.int .i64 d))] rfl fun β hβ => ?_; have hf := Tryd.func17
      repeat' (first | refine st ?_ | (refine AK.condS rfl (fun h => ?_) (fun h => ?_) <;> first | (cases h; done) | rw [h] | skip) | refine uQ hf rfl rfl ?_ | refine uC rfl (prim_calls p) ?_ | ((first | refine AOps.splitT rfl rfl rfl asm (fun h => ?_) | refine AOps.splitF rfl rfl rfl asm (fun h => ?_) | refine AOps.split rfl rfl rfl (fun h => ?_) (fun h => ?_)) <;> (fail_if_success (cases h; done)) <;> rw [h]))
      all_goals first
          | (show (_ : CV) = _
             clear hf hin
             try simp only [encNds_length] at *
             congr 1
             symm
             refine wrong_head ?_ (by omega)
             unfold wrong1 maxI
             simp_all <;> (repeat' split) <;> omega)
          | skip
      all_goals
        have hw : wrong1 (3) n p s args.length d = 0 := by
          clear hf hin
          try simp only [encNds_length] at *
          unfold wrong1 maxI
          simp_all <;> (repeat' split) <;> omega
        have hT := wrong_tail hw
        clear hw
        refine AK.loopE (α := Nat) (fun i => i ≤ args.length ∧ wrongs args (d + 1) = wrongs (args.drop i) (d + 1)) (fun i => args.length - i)
          (fun i => [(88, .c (.int .i64 i)), (87, .c (.int .i64 (encNds args).length)), (86, .c (.sl 5 (encNds args))), (1, .c (.int .i64 d))]) (fun _ => []) (fun _ => []) [] 0
          ⟨by omega, rfl⟩ ⟨.inl rfl, .inl rfl, .inl rfl, .inl rfl, trivial⟩ trivial trivial rfl rfl rfl ?_
        rintro i ⟨hi, hinv⟩ ih
        rcases get_or args i hi with ⟨x, hx, hm⟩ | he
        · have hc := nds_lt hx
          have hq := hin x hm
          rw [drop_at hx, wrongs_cons] at hinv
          obtain ⟨x1, x2, x3, x4, x5⟩ := x
          by_cases h0 : wrong (.mk x1 x2 x3 x4 x5) (d + 1) = 0
          · rw [if_pos h0] at hinv
            rw [h0] at hq
            repeat' (first | refine st ?_ | (refine AK.condS rfl (fun h => ?_) (fun h => ?_) <;> first | (cases h; done) | rw [h] | skip) | refine uQ hf rfl rfl ?_ | refine uI rfl (i) rfl (nds_at hx) rfl ?_ | refine uC rfl hq ?_ | ((first | refine AOps.splitT rfl rfl rfl asm (fun h => ?_) | refine AOps.splitF rfl rfl rfl asm (fun h => ?_) | refine AOps.split rfl rfl rfl (fun h => ?_) (fun h => ?_)) <;> (fail_if_success (cases h; done)) <;> rw [h]))
            exact AK.again (ih (i + 1) ⟨lt_of_get hx, hinv⟩ (by have := lt_of_get hx; omega)) ⟨.inl (succ64 (by have := lt_of_get hx; omega)), .inl rfl, .inl rfl, .inl rfl, trivial⟩ trivial trivial rfl rfl rfl
          · rw [if_neg h0] at hinv
            have hne : (wrong (.mk x1 x2 x3 x4 x5) (d + 1) != 0) = true := by simpa using h0
            repeat' (first | refine st ?_ | (refine AK.condS rfl (fun h => ?_) (fun h => ?_) <;> first | (cases h; done) | rw [h] | skip) | refine uQ hf rfl rfl ?_ | refine uI rfl (i) rfl (nds_at hx) rfl ?_ | refine uC rfl hq ?_ | ((first | refine AOps.splitT rfl rfl rfl asm (fun h => ?_) | refine AOps.splitF rfl rfl rfl asm (fun h => ?_) | refine AOps.split rfl rfl rfl (fun h => ?_) (fun h => ?_)) <;> (fail_if_success (cases h; done)) <;> rw [h]))
            show (_ : CV) = _
            rw [hT, hinv]
        · have hc := nds_end he
          have h0 : wrongs args (d + 1) = 0 := by rw [hinv, he, List.drop_length, wrongs_nil]
          clear ih
          repeat' (first | refine st ?_ | (refine AK.condS rfl (fun h => ?_) (fun h => ?_) <;> first | (cases h; done) | rw [h] | skip) | refine uQ hf rfl rfl ?_ | ((first | refine AOps.splitT rfl rfl rfl asm (fun h => ?_) | refine AOps.splitF rfl rfl rfl asm (fun h => ?_) | refine AOps.split rfl rfl rfl (fun h => ?_) (fun h => ?_)) <;> (fail_if_success (cases h; done)) <;> rw [h]))
          show (_ : CV) = _
          rw [hT, h0]
termination_by t => SizeOf.sizeOf t
decreasing_by
  have := List.sizeOf_lt_of_mem hx
  simp at this ⊢; omega
end Go.Proofs

-- WIDE
-- OLDASM
set_option linter.unusedVariables false
set_option linter.unusedSimpArgs false
namespace Go.Proofs
open Go.Abs
theorem many_eq (kind n p : Int) (s : List UInt8) (args : List Nd) : many (.mk kind n p s args) = manys args + 1 := rfl
theorem manys_nil : manys [] = 0 := rfl
theorem manys_cons (x : Nd) (l : List Nd) : manys (x :: l) = many x + manys l := rfl
mutual
theorem many_size : ∀ t : Nd, many t ≤ ndSize t
  | .mk kind n p s args => by have := manys_size args; simp only [many, ndSize]; omega
theorem manys_size : ∀ l : List Nd, manys l ≤ ndsSize l
  | [] => Nat.le_refl _
  | t :: l => by have := many_size t; have := manys_size l; simp only [manys, ndsSize]; omega
end
theorem add64 {a b : Nat} (h : a + b < 1099511627776) : some (AV.c (CV.int .i64 (IntKind.i64.wrap ((a : Int) + (b : Int))))) = some (AV.c (CV.int .i64 ((a + b : Nat) : Int))) := by
  rw [w64 (by omega) (by omega)]; rfl
attribute [local irreducible] AK AOps QCalls ECalls many manys wrong wrongs

set_option maxHeartbeats 0 in
theorem many_calls : ∀ (t : Nd), ndSize t ≤ 8589934593 → QCalls Tryd.prog Tryd.X 18 [encNd t] (.int .i64 (many t))
  | .mk kind n p s args, ht => by
    have hms := manys_size args
    simp only [ndSize] at ht
    have hl1 := ndsSize_len args
    have hin : ∀ x ∈ args, QCalls Tryd.prog Tryd.X 18 [encNd x] (.int .i64 (many x)) := fun x hx => many_calls x (by have := ndsSize_mem hx; omega)
    rw [many_eq]
    refine QCalls.of Tryd.func18 rfl (fun args w => Tryd.call18 args w) (Nat.le_of_ble_eq_true rfl) [(0, .c (encNd (.mk kind n p s args)))] rfl fun β hβ => ?_; have hf := Tryd.func18
    repeat' (first | refine sto ?_ | (refine AK.condS rfl (fun h => ?_) (fun h => ?_) <;> first | (cases h; done) | rw [h] | skip) | refine uQ hf rfl rfl ?_)
    refine AK.loopE (α := Nat × Nat) (fun z => z.1 ≤ args.length ∧ manys args + 1 = z.2 + manys (args.drop z.1)) (fun z => args.length - z.1)
      (fun z => [(9, .c (.int .i64 z.1)), (8, .c (.int .i64 (encNds args).length)), (7, .c (.sl 5 (encNds args))), (3, .c (.int .i64 z.2))]) (fun _ => []) (fun _ => []) [] (0, 1)
      ⟨by omega, by rw [List.drop_zero]; omega⟩ ⟨.inl rfl, .inl rfl, .inl rfl, .inl rfl, trivial⟩ trivial trivial rfl rfl rfl ?_
    rintro ⟨i, m⟩ ⟨hi, hinv⟩ ih
    simp only at hi hinv
    rcases get_or args i hi with ⟨x, hx, hm⟩ | he
    · have hc := nds_lt hx
      have hq := hin x hm
      rw [drop_at hx, manys_cons] at hinv
      have h2 := lt_of_get hx
      generalize many x = q at hq hinv
      obtain ⟨x1, x2, x3, x4, x5⟩ := x
      repeat' (first | refine sto ?_ | (refine AK.condS rfl (fun h => ?_) (fun h => ?_) <;> first | (cases h; done) | rw [h] | skip) | refine uQ hf rfl rfl ?_ | refine uI rfl (i) rfl (nds_at hx) rfl ?_ | refine uC rfl hq ?_)
      refine AK.again (ih (i + 1, m + q) ⟨h2, by show manys args + 1 = m + q + manys (args.drop (i + 1)); omega⟩ (by show args.length - (i + 1) < args.length - i; omega)) ⟨.inl (succ64 (by omega)), .inl rfl, .inl rfl, .inl (add64 (a := m) (b := q) (by omega)), trivial⟩ trivial trivial rfl rfl rfl
    · have hc := nds_end he
      have h0 : manys args + 1 = m := by rw [hinv, he, List.drop_length, manys_nil, Nat.add_zero]
      clear ih
      repeat' (first | refine sto ?_ | (refine AK.condS rfl (fun h => ?_) (fun h => ?_) <;> first | (cases h; done) | rw [h] | skip) | refine uQ hf rfl rfl ?_)
      show (_ : CV) = _
      rw [h0]
termination_by t => SizeOf.sizeOf t
decreasing_by
  have := List.sizeOf_lt_of_mem hx
  simp at this ⊢; omega

theorem treeGood_calls (n : Nd) (hn : ndSize n ≤ 8589934593) : QCalls Tryd.prog Tryd.X 10 [encNd n] (.int .i64 (tGoodN n)) := by
  have h1 := wrong_calls n 1 hn (by omega) (by omega)
  have h2 := many_calls n hn
  unfold tGoodN
  generalize wrong n 1 = e at h1
  generalize many n = m at h2
  obtain ⟨a1, a2, a3, a4, a5⟩ := n
  by_cases c1 : e = 0
  · subst c1
    by_cases c2 : 300 < m
    · have e2 : decide ((m : Int) > 300) = true := decide_eq_true (by omega)
      simp only [c2, if_true]
      refine QCalls.of Tryd.func10 rfl (fun args w => Tryd.call10 args w) (Nat.le_of_ble_eq_true rfl) [(0, .c (encNd (.mk a1 a2 a3 a4 a5)))] rfl fun β hβ => ?_; have hf := Tryd.func10
      repeat' (first | refine sto ?_ | (refine AK.condS rfl (fun h => ?_) (fun h => ?_) <;> first | (cases h; done) | rw [h] | skip) | refine uQ hf rfl rfl ?_ | refine uC rfl h1 ?_ | refine uC rfl h2 ?_)
      all_goals rfl
    · have e2 : decide ((m : Int) > 300) = false := decide_eq_false (by omega)
      simp only [c2, if_false, if_true]
      refine QCalls.of Tryd.func10 rfl (fun args w => Tryd.call10 args w) (Nat.le_of_ble_eq_true rfl) [(0, .c (encNd (.mk a1 a2 a3 a4 a5)))] rfl fun β hβ => ?_; have hf := Tryd.func10
      repeat' (first | refine sto ?_ | (refine AK.condS rfl (fun h => ?_) (fun h => ?_) <;> first | (cases h; done) | rw [h] | skip) | refine uQ hf rfl rfl ?_ | refine uC rfl h1 ?_ | refine uC rfl h2 ?_)
      all_goals rfl
  · have e1 : (e != 0) = true := by simpa using c1
    simp only [c1, if_false]
    refine QCalls.of Tryd.func10 rfl (fun args w => Tryd.call10 args w) (Nat.le_of_ble_eq_true rfl) [(0, .c (encNd (.mk a1 a2 a3 a4 a5)))] rfl fun β hβ => ?_; have hf := Tryd.func10
    repeat' (first | refine sto ?_ | (refine AK.condS rfl (fun h => ?_) (fun h => ?_) <;> first | (cases h; done) | rw [h] | skip) | refine uQ hf rfl rfl ?_ | refine uC rfl h1 ?_ | refine uC rfl h2 ?_)
    all_goals rfl
end Go.Proofs

set_option linter.unusedVariables false
set_option linter.unusedSimpArgs false
set_option maxRecDepth 100000
namespace Go.Proofs
open Go.Abs
theorem encVls_append : ∀ (a : List Vl) (b : List Vl), encVls (a ++ b) = encVls a ++ encVls b
  | [], b => rfl
  | x :: a, b => by simp only [List.cons_append, encVls, encVls_append a b]
theorem vRow_cons (x : Nd) (l : List Nd) (t : Ty) (r : List Ty) : vRow (x :: l) (t :: r) = if (vPar x t).2 = true then glue [(vPar x t).1] (vRow l r) else ([], false) := by simp only [vRow]
theorem vRow_nil : vRow [] [] = ([], true) := by simp only [vRow]
theorem glue_some (acc : List Vl) (x : Vl) (z : List Vl × Bool) : glue acc (glue [x] z) = glue (acc ++ [x]) z := glue_glue acc [x] z
theorem glue_no (acc : List Vl) : glue acc ([], false) = ([], false) := rfl
theorem glue_end (acc : List Vl) : glue acc ([], true) = (acc, true) := by simp [glue]
theorem vParAll_cons (x : Nd) (l : List Nd) (t : Ty) : vParAll (x :: l) t = ((vPar x t).1 :: (vParAll l t).1, (vPar x t).2 && (vParAll l t).2) := by simp only [vParAll]
theorem vParAll_nil (t : Ty) : vParAll [] t = ([], true) := by simp only [vParAll]
theorem vParMap_cons (kind N P : Int) (S : List UInt8) (xs : List Nd) (l : List Nd) (ts : List Ty) : vParMap (.mk kind N P S xs :: l) ts = (.mk 11 0 0 [] (vRow xs ts).1 [] [] :: (vParMap l ts).1, ((vRow xs ts).2 && decide (kind = 2 ∧ P = 28)) && (vParMap l ts).2) := by simp only [vParMap]
theorem vParMap_nil (ts : List Ty) : vParMap [] ts = ([], true) := by simp only [vParMap]
theorem vPar1 (kind N P : Int) (S : List UInt8) (args : List Nd) (ts : List Ty) : vPar (.mk kind N P S args) (.mk 1 ts) = (val0 1, decide (kind = 2 ∧ P = 20 ∧ args.length = 0)) := by simp [vPar, tyT]
theorem vPar2 (kind N P : Int) (S : List UInt8) (args : List Nd) (ts : List Ty) : vPar (.mk kind N P S args) (.mk 2 ts) = (.mk 2 (IntKind.i64.wrap (22 - P)) 0 [] [] [] [], decide (kind = 2 ∧ (P = 21 ∨ P = 22) ∧ args.length = 0)) := by simp [vPar, tyT]
theorem vPar3 (T kind N P : Int) (hT : T = 3 ∨ T = 4 ∨ T = 5 ∨ T = 7) (S : List UInt8) (args : List Nd) (ts : List Ty) : vPar (.mk kind N P S args) (.mk T ts) = (.mk T N 0 [] [] [] [], decide (kind = 0)) := by
  rcases hT with rfl | rfl | rfl | rfl <;> simp [vPar, tyT]
theorem vPar6 (kind N P : Int) (S : List UInt8) (args : List Nd) (ts : List Ty) : vPar (.mk kind N P S args) (.mk 6 ts) = (.mk 6 0 0 S [] [] [], decide (kind = 1)) := by simp [vPar, tyT]
theorem vPar9a (N : Int) (S : List UInt8) (args : List Nd) (ts : List Ty) : vPar (.mk 2 N 27 S args) (.mk 9 ts) = (val0 9, decide (args.length = 0)) := by simp [vPar, tyT]
theorem vPar9b (N : Int) (S : List UInt8) (args : List Nd) (ts : List Ty) : vPar (.mk 2 N 26 S args) (.mk 9 ts) = (.mk 9 0 0 [] (vRow args ts).1 [] [], (vRow args ts).2) := by simp [vPar, tyT, tyArgs]
theorem vPar9c (kind N P : Int) (S : List UInt8) (args : List Nd) (ts : List Ty) (h1 : ¬ (kind = 2 ∧ P = 27)) (h2 : ¬ (kind = 2 ∧ P = 26)) : vPar (.mk kind N P S args) (.mk 9 ts) = (val0 9, false) := by simp [vPar, tyT, h1, h2]
theorem vPar11a (N : Int) (S : List UInt8) (args : List Nd) (ts : List Ty) : vPar (.mk 2 N 23 S args) (.mk 11 ts) = (.mk 11 0 0 [] (vRow args ts).1 [] [], (vRow args ts).2) := by simp [vPar, tyT, tyArgs]
theorem vPar11b (kind N P : Int) (S : List UInt8) (args : List Nd) (ts : List Ty) (h1 : ¬ (kind = 2 ∧ P = 23)) : vPar (.mk kind N P S args) (.mk 11 ts) = (val0 11, false) := by simp [vPar, tyT, h1]
theorem vPar12a (N : Int) (S : List UInt8) (args : List Nd) (u u' : Ty) : vPar (.mk 2 N 24 S args) (.mk 12 [u, u']) = (.mk 12 0 0 [] (vRow args [u]).1 [] [], (vRow args [u]).2) := by simp [vPar, tyT, tyArg, tyArgs]
theorem vPar12b (N : Int) (S : List UInt8) (args : List Nd) (u u' : Ty) : vPar (.mk 2 N 25 S args) (.mk 12 [u, u']) = (.mk 12 1 0 [] (vRow args [u']).1 [] [], (vRow args [u']).2) := by simp [vPar, tyT, tyArg, tyArgs]
theorem vPar12c (kind N P : Int) (S : List UInt8) (args : List Nd) (ts : List Ty) (h1 : ¬ (kind = 2 ∧ P = 24)) (h2 : ¬ (kind = 2 ∧ P = 25)) : vPar (.mk kind N P S args) (.mk 12 ts) = (val0 12, false) := by simp [vPar, tyT, h1, h2]
theorem vPar10 (kind N P : Int) (S : List UInt8) (args : List Nd) (u : Ty) : vPar (.mk kind N P S args) (.mk 10 [u]) = (.mk 10 0 0 [] (vParAll args u).1 [] [], decide (kind = 3) && (vParAll args u).2) := by simp [vPar, tyT, tyArg, tyArgs]
theorem vPar13 (kind N P : Int) (S : List UInt8) (args : List Nd) (ts : List Ty) : vPar (.mk kind N P S args) (.mk 13 ts) = (.mk 13 0 0 [] (vParMap args ts).1 [] [], decide (kind = 3) && (vParMap args ts).2) := by simp [vPar, tyT, tyArgs]
theorem vParX (T kind N P : Int) (hT : T = 8 ∨ T = 14 ∨ T = 15) (S : List UInt8) (args : List Nd) (ts : List Ty) : vPar (.mk kind N P S args) (.mk T ts) = (val0 T, false) := by
  rcases hT with rfl | rfl | rfl <;> simp [vPar, tyT]
attribute [local irreducible] AK AOps QCalls ECalls vPar vRow vParAll vParMap

theorem QCalls.weaken {P : Program} {X : Ctx} {f : FuncId} {args : List CV} {r r' : CV} (h : ∀ G v, Rel G r v → Rel G r' v) (q : QCalls P X f args r) : QCalls P X f args r' := by
  unfold QCalls at q ⊢
  refine ⟨q.1, fun G w vs h1 h2 h3 => ?_⟩
  exact Calls.mono (q.2 G w vs h1 h2 h3) fun e w' ⟨u, G', e1, e2, e3⟩ => ⟨u, G', e1, h G' u e2, e3⟩
theorem rel_nil {G : Imm} {s t : Nat} {v : Value} (h : Rel G (.sl s []) v) : Rel G (.sl t []) v := by
  rw [Rel] at h ⊢
  obtain ⟨base, len, cap, e1, e2, e3, _⟩ := h
  exact ⟨base, len, cap, e1, e2, e3, .inl rfl⟩
theorem rel_nil2 {G : Imm} {s t : Nat} {b : Bool} {v : Value} (h : Rel G (.tup [.sl s [], .bool b]) v) : Rel G (.tup [.sl t [], .bool b]) v := by
  rw [Rel] at h ⊢
  obtain ⟨vs, e1, e2, e3⟩ := h
  refine ⟨vs, e1, ?_, by simp⟩
  rw [RelL] at e2 ⊢
  obtain ⟨u, us, f1, f2, f3⟩ := e2
  exact ⟨u, us, f1, rel_nil f2, f3⟩
/-- What row answers, as it lies there. -/
def rowCV : List Vl × Bool → CV
  | (q, true) => .tup [.sl 7 (encVls q), .bool true]
  | (_, false) => .tup [.sl 0 [], .bool false]
/-- is -/
theorem is_calls (kind N P q : Int) (S : List UInt8) (args : List Nd) : QCalls Tryd.prog Tryd.X 60 [.int .i64 q, .ip [.int .i64 kind, .int .i64 N, .int .i64 P, .str S, .sl 5 (encNds args)]] (.bool (decide (kind = 2 ∧ P = q))) := by
  refine QCalls.of Tryd.func60 rfl (fun args w => Tryd.call60 args w) (Nat.le_of_ble_eq_true rfl) [(0, .c (.int .i64 q)), (1, .c (.ip [.int .i64 kind, .int .i64 N, .int .i64 P, .str S, .sl 5 (encNds args)]))] rfl fun β hβ => ?_; have hf := Tryd.func60
  repeat' (first | refine st ?_ | refine uQ hf rfl rfl ?_ | ((first | refine AOps.splitT rfl rfl rfl asm (fun h => ?_) | refine AOps.splitF rfl rfl rfl asm (fun h => ?_) | refine AOps.split rfl rfl rfl (fun h => ?_) (fun h => ?_)) <;> (fail_if_success (cases h; done)) <;> rw [h]))
  all_goals
    show (_ : CV) = _
    clear hf
    refine congrArg CV.bool ?_
    rw [Bool.eq_iff_iff]
    (try simp_all) <;> (try omega)

set_option maxHeartbeats 0 in
theorem row_calls0 (ts : List Ty) (l : List Nd) (hl : l.length ≤ 1099511627776) (hp : ∀ x ∈ l, ∀ t ∈ ts, QCalls Tryd.prog Tryd.X 47 [encTy t, encNd x] (.tup [encVl (vPar x t).1, .bool (vPar x t).2])) :
    QCalls Tryd.prog Tryd.X 61 [.sl 2 (encTys ts), .sl 5 (encNds l)] (rowCV (vRow l ts)) := by
  by_cases hlen : l.length = ts.length
  rotate_left
  · have e0 : ((((encTys ts).length : Nat) : Int) != (((encNds l).length : Nat) : Int)) = true := by rw [encTys_length, encNds_length]; simp; omega
    rw [vRow_len l ts hlen]
    refine QCalls.of Tryd.func61 rfl (fun args w => Tryd.call61 args w) (Nat.le_of_ble_eq_true rfl) [(0, .c (.sl 2 (encTys ts))), (1, .c (.sl 5 (encNds l)))] rfl fun β hβ => ?_; have hf := Tryd.func61
    exact dq
  have e0 : ((((encTys ts).length : Nat) : Int) != (((encNds l).length : Nat) : Int)) = false := by rw [encTys_length, encNds_length]; simp; omega
  refine QCalls.of Tryd.func61 rfl (fun args w => Tryd.call61 args w) (Nat.le_of_ble_eq_true rfl) [(0, .c (.sl 2 (encTys ts))), (1, .c (.sl 5 (encNds l)))] rfl fun β hβ => ?_; have hf := Tryd.func61
  repeat' (first | refine st ?_ | (refine AK.condS rfl (fun h => ?_) (fun h => ?_) <;> first | (cases h; done) | rw [h] | skip) | refine uQ hf rfl rfl ?_ | (refine uA rfl ?_ ?_ <;> (try (show (_ : Nat) * _ ≤ _; dsimp only))))
  refine AK.ren [] [(6000, (0, none))] (env' := [(17, .c (.int .i64 (0 : Nat))), (16, .c (.int .i64 (encNds l).length)), (0, .c (.sl 2 (encTys ts))), (1, .c (.sl 5 (encNds l))), (6, .own (.tok 6000 0) 7 [])])
    (bs' := []) (ts' := [(6000, 0)]) (us' := [6000])
    ⟨⟨_, rfl, .inl rfl⟩, ⟨_, rfl, .inl rfl⟩, ⟨_, rfl, .inl rfl⟩, ⟨_, rfl, .inl rfl⟩, ⟨_, rfl, ⟨_, rfl, .inl ⟨rfl, _, rfl, .inr rfl⟩⟩⟩, trivial⟩ trivial rfl ?_
  refine AK.loopE (α := Nat × List Vl) (fun z => z.1 ≤ l.length ∧ z.1 = z.2.length ∧ vRow l ts = glue z.2 (vRow (l.drop z.1) (ts.drop z.1))) (fun z => l.length - z.1)
    (fun z => [(17, .c (.int .i64 z.1)), (16, .c (.int .i64 (encNds l).length)), (0, .c (.sl 2 (encTys ts))), (1, .c (.sl 5 (encNds l))), (6, .own (.tok 6000 0) 7 (encVls z.2))]) (fun _ => []) (fun _ => [(6000, 0)]) [6000] (0, [])
    ⟨by omega, rfl, by rw [glue_nil _ (vRow_false _ _)]; rfl⟩ ⟨.inl rfl, .inl rfl, .inl rfl, .inl rfl, .inl rfl, trivial⟩ trivial ⟨rfl, trivial⟩ rfl rfl rfl ?_
  rintro ⟨i, acc⟩ ⟨hi, hia, hinv⟩ ih
  simp only at hi hia hinv
  rcases get_or l i hi with ⟨x, hx, hm⟩ | he
  · have hc := nds_lt hx
    have h2 := lt_of_get hx
    obtain ⟨t, ht⟩ : ∃ t, ts[i]? = some t := ⟨ts[i]'(by omega), by simp⟩
    have hq := hp x hm t (List.mem_of_getElem? ht)
    rw [drop_at hx, drop_at ht, vRow_cons] at hinv
    rcases hr : vPar x t with ⟨⟨y1, y2, y3, y4, y5, y6, y7⟩, b⟩
    rw [hr] at hq hinv
    obtain ⟨xk, xn, xp, xs, xa⟩ := x
    obtain ⟨U, us⟩ := t
    cases b with
    | false =>
      rw [if_neg (by simp), glue_no] at hinv
      rw [hinv]
      clear ih hinv
      have tsr1 := tys_at ht
      have tsr2 := nds_at hx
      exact dq
    | true =>
      rw [if_pos rfl, glue_some] at hinv
      repeat' (first | refine st ?_ | (refine AK.condS rfl (fun h => ?_) (fun h => ?_) <;> first | (cases h; done) | rw [h] | skip) | refine uQ hf rfl rfl ?_ | refine uI rfl (i) rfl (tys_at ht) rfl ?_ | refine uI rfl (i) rfl (nds_at hx) rfl ?_ | refine uC rfl hq ?_ | (refine uA rfl ?_ ?_ <;> (try (show (_ : Nat) * _ ≤ _; dsimp only))))
      · have h1 := encVls_length acc
        simp only [List.length_cons, List.length_nil]
        omega
      · have hap : encVls acc ++ [encVl (.mk y1 y2 y3 y4 y5 y6 y7)] = encVls (acc ++ [Vl.mk y1 y2 y3 y4 y5 y6 y7]) := (encVls_append acc [_]).symm
        refine AK.ren [] [(6000, (0, some 6000))] (env' := [(17, .c (.int .i64 ((i + 1 : Nat) : Int))), (16, .c (.int .i64 (encNds l).length)), (0, .c (.sl 2 (encTys ts))), (1, .c (.sl 5 (encNds l))), (6, .own (.tok 6000 0) 7 (encVls (acc ++ [Vl.mk y1 y2 y3 y4 y5 y6 y7])))])
          (bs' := []) (ts' := [(6000, 0)]) (us' := [6000])
          ⟨⟨_, rfl, .inl (succ64' (i := i) (by omega))⟩, ⟨_, rfl, .inl rfl⟩, ⟨_, rfl, .inl rfl⟩, ⟨_, rfl, .inl rfl⟩, ⟨_, rfl, ⟨_, rfl, .inr ⟨_, _, rfl, rfl, congrArg (AV.own (.tok 6000 1) 7) hap⟩⟩⟩, trivial⟩ trivial rfl ?_
        exact ih (i + 1, acc ++ [Vl.mk y1 y2 y3 y4 y5 y6 y7]) ⟨h2, by simp [hia], hinv⟩ (by show l.length - (i + 1) < l.length - i; omega)
  · have hc := nds_end he
    have h0 : vRow l ts = (acc, true) := by rw [hinv, he, hlen, List.drop_length, ← hlen, List.drop_length, vRow_nil, glue_end]
    rw [h0]
    clear ih hinv
    exact dq
theorem row_calls (ts : List Ty) (l : List Nd) (hl : l.length ≤ 1099511627776) (hp : ∀ x ∈ l, ∀ t ∈ ts, QCalls Tryd.prog Tryd.X 47 [encTy t, encNd x] (.tup [encVl (vPar x t).1, .bool (vPar x t).2])) :
    QCalls Tryd.prog Tryd.X 61 [.sl 2 (encTys ts), .sl 5 (encNds l)] (.tup [.sl 7 (encVls (vRow l ts).1), .bool (vRow l ts).2]) := by
  have h := row_calls0 ts l hl hp
  have hf := vRow_false l ts
  rcases hr : vRow l ts with ⟨q, b⟩
  rw [hr] at h hf
  cases b with
  | true => exact h
  | false =>
    obtain rfl := hf rfl
    exact QCalls.weaken (fun G v hv => rel_nil2 hv) h
end Go.Proofs
