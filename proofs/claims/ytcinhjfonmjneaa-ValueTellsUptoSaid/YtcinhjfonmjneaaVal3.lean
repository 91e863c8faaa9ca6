/- What each and has of package value answer. -/
import Derived.Test.YtcinhjfonmjneaaVal2
set_option linter.unusedVariables false
set_option linter.unusedSimpArgs false
set_option maxRecDepth 100000
namespace Go.Proofs
open Go.Abs
theorem vHasAll_any (t : Ty) : ∀ (l : List Vl), (!(l.any fun x => !vHas x t)) = vHasAll l t
  | [] => rfl
  | x :: l => by simp only [vHasAll, ← vHasAll_any t l, List.any_cons]; cases vHas x t <;> simp
theorem vHasAll_cons (t : Ty) (x : Vl) (l : List Vl) : vHasAll (x :: l) t = (vHas x t && vHasAll l t) := rfl
/-- The keys go up. -/
def upB : List Vl → Bool
  | [] => true
  | [_] => true
  | x :: y :: l => decide (vCmp (vKey x) (vKey y) < 0) && upB (y :: l)
theorem vUp_eq : ∀ l : List Vl, vUp l = upB l
  | [] => rfl
  | [_] => rfl
  | x :: y :: l => by
    have := vUp_eq (y :: l)
    simp only [upB, ← this]
    rfl
/-- The items of a map from a place on, behind another one. -/
def mapB (t : Ty) : Option Vl → List Vl → Bool
  | _, [] => true
  | none, x :: l => vHas x t && mapB t (some x) l
  | some p, x :: l => vHas x t && (decide (vCmp (vKey p) (vKey x) < 0) && mapB t (some x) l)
theorem mapB_some (t : Ty) : ∀ (l : List Vl) (p : Vl), mapB t (some p) l = (vHasAll l t && upB (p :: l))
  | [], p => by simp [mapB, vHasAll, upB]
  | x :: l, p => by
    simp only [mapB, vHasAll, upB, mapB_some t l x]
    cases vHas x t <;> cases vHasAll l t <;> cases decide (vCmp (vKey p) (vKey x) < 0) <;> simp
theorem mapB_none (t : Ty) (l : List Vl) : mapB t none l = (vHasAll l t && vUp l) := by
  rw [vUp_eq]
  cases l with
  | nil => rfl
  | cons x l =>
    simp only [mapB, vHasAll, mapB_some]
    cases vHas x t <;> simp

theorem mapB_nil (t : Ty) (p : Option Vl) : mapB t p [] = true := by cases p <;> rfl
theorem mapB_none_cons (t : Ty) (x : Vl) (l : List Vl) : mapB t none (x :: l) = (vHas x t && mapB t (some x) l) := rfl
theorem mapB_some_cons (t : Ty) (p x : Vl) (l : List Vl) : mapB t (some p) (x :: l) = (vHas x t && (decide (vCmp (vKey p) (vKey x) < 0) && mapB t (some x) l)) := rfl
theorem has_no (k n a : Int) (s : List UInt8) (args : List Vl) (types : List Ty) (code : List Nd) (t : Ty) (h : k ≠ tyT t ∨ vPlain (.mk k n a s args types code) = false ∨ 200 < s.length) : vHas (.mk k n a s args types code) t = false := by simp only [vHas, if_pos h]
theorem has_go (k n a : Int) (s : List UInt8) (args : List Vl) (types : List Ty) (code : List Nd) (t : Ty) (h : ¬ (k ≠ tyT t ∨ vPlain (.mk k n a s args types code) = false ∨ 200 < s.length)) : vHas (.mk k n a s args types code) t =
    (if k = 1 ∨ k = 6 then decide (n = 0 ∧ args.length = 0)
    else if k = 2 then decide (0 ≤ n ∧ n ≤ 1 ∧ args.length = 0)
    else if k = 3 then decide (-maxI ≤ n ∧ n ≤ maxI ∧ args.length = 0)
    else if k = 4 ∨ k = 5 then decide (0 ≤ n ∧ n ≤ maxI ∧ args.length = 0)
    else if k = 7 then decide (0 ≤ n ∧ n < 12 ∧ args.length = 0)
    else if k = 9 then decide (n = 0 ∧ args.length ≤ 1) && vHasAll args (tyArg t 0)
    else if k = 10 then decide (n = 0 ∧ args.length ≤ 24) && vHasAll args (tyArg t 0)
    else if k = 11 then decide (n = 0 ∧ args.length = 2) && vHasRow args (tyArgs t)
    else if k = 12 then decide (0 ≤ n ∧ n ≤ 1 ∧ args.length = 1) && vHasAll args (tyArg t n.toNat)
    else if k = 13 then decide (n = 0 ∧ args.length ≤ 24) && mapB (.mk 11 (tyArgs t)) none args
    else if k = 14 then tySame (tyArg t 0) (types.getD 0 ty0) && tySame (tyArg t 1) (types.getD 1 ty0)
    else if k = 15 then decide (1 ≤ n ∧ n ≤ maxI ∧ 0 ≤ a ∧ a < 12 ∧ args.length = 1) && vHasAll args (tyArg t 0)
    else if k = 8 then decide (0 ≤ n ∧ n ≤ maxI ∧ 0 ≤ a ∧ a < 12 ∧ args.length = 1) && tGood (types.getD 0 ty0) && vHasAll args (types.getD 0 ty0)
    else false) := by
  simp only [vHas, if_neg h, mapB_none, Bool.and_assoc]
attribute [local irreducible] AK AOps QCalls ECalls vCmp vCmps vHas vHasAll vHasRow vSame vsSame tySame tysSame ndSame ndsSame sgn strCmp vPlain mapB upB vUp tGood

set_option maxHeartbeats 0 in
theorem each_calls (t : Ty) (l : List Vl) (hp : ∀ x ∈ l, QCalls Try.prog Try.X 111 [encTy t, encVl x] (.bool (vHas x t))) (hlen : l.length ≤ 1099511627776) :
    QCalls Try.prog Try.X 138 [encTy t, .sl 7 (encVls l)] (.bool (vHasAll l t)) := by
  obtain ⟨T, ts⟩ := t
  have hin : ∀ x ∈ l, QCalls Try.prog Try.X 150 (encVl x :: [.ip [.int .i64 T, .sl 2 (encTys ts)]]) (.bool (!vHas x (.mk T ts))) := by
    intro x hx
    have hrec := hp x hx
    obtain ⟨x1, x2, x3, x4, x5, x6, x7⟩ := x
    refine QCalls.of Try.func150 rfl (fun args w => Try.call150 args w) (Nat.le_of_ble_eq_true rfl) [(0, .c (encVl (.mk x1 x2 x3 x4 x5 x6 x7))), (1, .c (.ip [.int .i64 T, .sl 2 (encTys ts)]))] rfl fun β hβ => ?_; have hf := Try.func150
    exact dq
  have hq := containsVl_calls l (fun x => !vHas x (.mk T ts)) 150 [.ip [.int .i64 T, .sl 2 (encTys ts)]] hin hlen
  rw [← vHasAll_any]
  refine QCalls.of Try.func138 rfl (fun args w => Try.call138 args w) (Nat.le_of_ble_eq_true rfl) [(0, .c (encTy (.mk T ts))), (1, .c (.sl 7 (encVls l)))] rfl fun β hβ => ?_; have hf := Try.func138
  refine AK.seq ?_
  refine AK.region Try.mixed rfl ?_
  repeat' (first | refine AOps.done ?_ | refine AOps.runS Try.hX kn rfl ?_ | refine AOps.box kn rfl rfl rfl rfl rfl rfl ?_ | refine AOps.alloc Try.hX kn rfl rfl rfl rfl rfl rfl rfl ?_ | refine AOps.store Try.hX kn rfl rfl rfl rfl rfl rfl rfl rfl rfl rfl rfl ?_ | refine AOps.buildSlice Try.hX kn rfl rfl rfl rfl rfl rfl rfl rfl rfl rfl rfl rfl ?_ | refine AOps.append Try.hX kn rfl rfl rfl rfl rfl rfl rfl rfl rfl rfl rfl rfl rfl rfl rfl rfl rfl rfl rfl rfl rfl ?_ ?_ | refine AOps.toStr Try.hX kn rfl rfl rfl rfl rfl rfl rfl rfl rfl rfl rfl (by first | exact rfl | exact byte1 _) rfl ?_ | refine AOps.buildArr Try.hX kn rfl rfl rfl rfl rfl rfl rfl rfl ?_ | refine AOps.indexArr Try.hX kn rfl rfl rfl rfl rfl rfl rfl rfl rfl rfl rfl rfl ?_ | refine AOps.runP1 Try.hX kn rfl rfl ?_ | (refine AOps.splitT rfl rfl rfl (by first | with_reducible assumption | (simp only [cond_true, cond_false, Bool.not_true, Bool.not_false, bne_self_eq_false, Int.reduceBNe, Int.reduceBEq]; first | done | with_reducible assumption)) (fun h => ?_) <;> (fail_if_success (cases h; done)) <;> rw [h]) | (refine AOps.splitF rfl rfl rfl (by first | with_reducible assumption | (simp only [cond_true, cond_false, Bool.not_true, Bool.not_false, bne_self_eq_false, Int.reduceBNe, Int.reduceBEq]; first | done | with_reducible assumption)) (fun h => ?_) <;> (fail_if_success (cases h; done)) <;> rw [h]) | (refine AOps.split rfl rfl rfl (fun h => ?_) (fun h => ?_) <;> (fail_if_success (cases h; done)) <;> rw [h]) | refine AOps.drawn (by kernel_rfl) ?_)
  refine AK.freeze 2 rfl rfl rfl rfl ?_
  exact dq
def vBodyM (k n a : Int) (args : List Vl) (types : List Ty) (t : Ty) : Bool :=
    if k = 1 ∨ k = 6 then decide (n = 0 ∧ args.length = 0)
    else if k = 2 then decide (0 ≤ n ∧ n ≤ 1 ∧ args.length = 0)
    else if k = 3 then decide (-maxI ≤ n ∧ n ≤ maxI ∧ args.length = 0)
    else if k = 4 ∨ k = 5 then decide (0 ≤ n ∧ n ≤ maxI ∧ args.length = 0)
    else if k = 7 then decide (0 ≤ n ∧ n < 12 ∧ args.length = 0)
    else if k = 9 then decide (n = 0 ∧ args.length ≤ 1) && vHasAll args (tyArg t 0)
    else if k = 10 then decide (n = 0 ∧ args.length ≤ 24) && vHasAll args (tyArg t 0)
    else if k = 11 then decide (n = 0 ∧ args.length = 2) && vHasRow args (tyArgs t)
    else if k = 12 then decide (0 ≤ n ∧ n ≤ 1 ∧ args.length = 1) && vHasAll args (tyArg t n.toNat)
    else if k = 13 then decide (n = 0 ∧ args.length ≤ 24) && mapB (.mk 11 (tyArgs t)) none args
    else if k = 14 then tySame (tyArg t 0) (types.getD 0 ty0) && tySame (tyArg t 1) (types.getD 1 ty0)
    else if k = 15 then decide (1 ≤ n ∧ n ≤ maxI ∧ 0 ≤ a ∧ a < 12 ∧ args.length = 1) && vHasAll args (tyArg t 0)
    else if k = 8 then decide (0 ≤ n ∧ n ≤ maxI ∧ 0 ≤ a ∧ a < 12 ∧ args.length = 1) && tGood (types.getD 0 ty0) && vHasAll args (types.getD 0 ty0)
    else false
theorem nIn_dec (n : Int) : nIn n = decide (-maxI ≤ n ∧ n ≤ maxI) := by
  unfold nIn; rw [Bool.eq_iff_iff]; simp [maxI]
theorem has11 {x : Vl} {u u' : Ty} (h : vHas x (.mk 11 [u, u']) = true) : ∃ n a s types code y z, x = .mk 11 n a s [y, z] types code ∧ vHas y u = true ∧ vHas z u' = true := by
  obtain ⟨k, n, a, s, args, types, code⟩ := x
  obtain ⟨h1, h2, h3⟩ := vHas_head h
  have h1' : k = 11 := h1
  subst h1'
  rw [has_go _ _ _ _ _ _ _ _ (by rintro (h | h | h); exact h h1; rw [h2] at h; cases h; omega)] at h
  have h4 : (decide (n = 0 ∧ args.length = 2) && vHasRow args [u, u']) = true := h
  simp only [Bool.and_eq_true, decide_eq_true_eq] at h4
  obtain ⟨y, z, rfl⟩ := len2 h4.1.2
  have h5 : (vHas y u && (vHas z u' && vHasRow [] [])) = true := by
    have := h4.2; unfold vHasRow at this; unfold vHasRow at this; exact this
  simp only [Bool.and_eq_true] at h5
  exact ⟨n, a, s, types, code, y, z, rfl, h5.1, h5.2.1⟩
theorem tlen1 {l : List Ty} (h : l.length = 1) : ∃ x, l = [x] := by
  match l, h with
  | [x], _ => exact ⟨x, rfl⟩
theorem arity_in {k : Int} {m : Nat} (h : arity k = (m : Int)) : 1 ≤ k ∧ k ≤ 15 := by
  unfold arity at h
  split at h <;> omega
theorem getD0 (x : Ty) (l : List Ty) (d : Ty) : (x :: l).getD 0 d = x := rfl
theorem tGood_bad {t : Ty} (h : tGood t = true) : tBad t = false := by
  cases hb : tBad t with
  | false => rfl
  | true =>
    have h1 := bad_good t 24 300 hb
    rw [rGood_top, h] at h1; cases h1
/-- The item ahead of a place. -/
def pre (l : List Vl) (i : Nat) : Option Vl := if i = 0 then none else l[i - 1]?

set_option maxHeartbeats 0 in
theorem has_calls : ∀ (v : Vl) (t : Ty), tBad t = false → vlSize v ≤ 1048577 → tySize t ≤ 1048577 → QCalls Try.prog Try.X 111 [encTy t, encVl v] (.bool (vHas v t))
  | .mk k n a s args types code, .mk T ts, hb, hv, ht => by
    simp only [vlSize] at hv
    simp only [tySize] at ht
    have hl1 := vlsSize_len args
    have hin : ∀ x ∈ args, ∀ u, tBad u = false → tySize u ≤ 1048577 → QCalls Try.prog Try.X 111 [encTy u, encVl x] (.bool (vHas x u)) := fun x hx u h1 h2 => has_calls x u h1 (by have := vlsSize_mem hx; omega) h2
    have hp := plain_calls (.mk k n a s args types code)
    by_cases d1 : k = T
    rotate_left
    · have e1 : (k != T) = true := by simpa using d1
      rw [has_no _ _ _ _ _ _ _ _ (.inl d1)]
      refine QCalls.of Try.func111 rfl (fun args w => Try.call111 args w) (Nat.le_of_ble_eq_true rfl) [(0, .c (encTy (.mk T ts))), (1, .c (encVl (.mk k n a s args types code)))] rfl fun β hβ => ?_; have hf := Try.func111
      exact dq
    subst d1
    have e1 : (k != k) = false := by simp
    by_cases d2 : vPlain (.mk k n a s args types code) = false
    · rw [has_no _ _ _ _ _ _ _ _ (.inr (.inl d2))]
      rw [d2] at hp
      refine QCalls.of Try.func111 rfl (fun args w => Try.call111 args w) (Nat.le_of_ble_eq_true rfl) [(0, .c (encTy (.mk k ts))), (1, .c (encVl (.mk k n a s args types code)))] rfl fun β hβ => ?_; have hf := Try.func111
      exact dq
    have d2' : vPlain (.mk k n a s args types code) = true := by simpa using d2
    rw [d2'] at hp
    by_cases d3 : 200 < s.length
    · have e3 : decide (((s.length : Nat) : Int) > 200) = true := by simp; omega
      rw [has_no _ _ _ _ _ _ _ _ (.inr (.inr d3))]
      refine QCalls.of Try.func111 rfl (fun args w => Try.call111 args w) (Nat.le_of_ble_eq_true rfl) [(0, .c (encTy (.mk k ts))), (1, .c (encVl (.mk k n a s args types code)))] rfl fun β hβ => ?_; have hf := Try.func111
      exact dq
    have e3 : decide (((s.length : Nat) : Int) > 200) = false := by simp; omega
    have hgo : vHas (.mk k n a s args types code) (.mk k ts) = vBodyM k n a args types (.mk k ts) := has_go _ _ _ _ _ _ _ _ (by rintro (h | h | h); exact h rfl; exact d2 h; exact d3 h)
    rw [hgo]
    obtain ⟨har, hbs⟩ := tBad_args hb
    simp only [tyT, tyArgs] at har hbs
    have hpl : vPlain (.mk k n a s args types code) = true := d2'
    rw [plain_eq] at hpl
    clear hgo d2 d2' d3
    by_cases c : k = 1
    · subst c
      show QCalls _ _ _ _ (.bool (decide (n = 0 ∧ args.length = 0)))
      rw [← encVls_length]
      refine QCalls.of Try.func111 rfl (fun args w => Try.call111 args w) (Nat.le_of_ble_eq_true rfl) [(0, .c (encTy (.mk 1 ts))), (1, .c (encVl (.mk 1 n a s args types code)))] rfl fun β hβ => ?_; have hf := Try.func111
      repeat' (first | refine AK.runP Try.hX Try.mixed 300 rfl ?_ | refine AK.condTe rfl asm ?_ | refine AK.condFe rfl asm ?_ | (refine AK.condS rfl (fun h => ?_) (fun h => ?_) <;> first | (cases h; done) | rw [h] | skip) | refine AK.retQ Try.hX hf rfl rfl ?_ | refine AK.region Try.mixed rfl ?_ | refine AOps.done ?_ | refine AOps.runS Try.hX kn rfl ?_ | refine AOps.callq kn rfl rfl rfl rfl (hp) ?_ | refine AOps.box kn rfl rfl rfl rfl rfl rfl ?_ | refine AOps.alloc Try.hX kn rfl rfl rfl rfl rfl rfl rfl ?_ | refine AOps.store Try.hX kn rfl rfl rfl rfl rfl rfl rfl rfl rfl rfl rfl ?_ | refine AOps.buildSlice Try.hX kn rfl rfl rfl rfl rfl rfl rfl rfl rfl rfl rfl rfl ?_ | refine AOps.append Try.hX kn rfl rfl rfl rfl rfl rfl rfl rfl rfl rfl rfl rfl rfl rfl rfl rfl rfl rfl rfl rfl rfl ?_ ?_ | refine AOps.toStr Try.hX kn rfl rfl rfl rfl rfl rfl rfl rfl rfl rfl rfl (by first | exact rfl | exact byte1 _) rfl ?_ | refine AOps.buildArr Try.hX kn rfl rfl rfl rfl rfl rfl rfl rfl ?_ | refine AOps.indexArr Try.hX kn rfl rfl rfl rfl rfl rfl rfl rfl rfl rfl rfl rfl ?_ | refine AOps.runP1 Try.hX kn rfl rfl ?_ | (refine AOps.splitT rfl rfl rfl asm (fun h => ?_) <;> (fail_if_success (cases h; done)) <;> rw [h]) | (refine AOps.splitF rfl rfl rfl asm (fun h => ?_) <;> (fail_if_success (cases h; done)) <;> rw [h]) | (refine AOps.split rfl rfl rfl (fun h => ?_) (fun h => ?_) <;> (fail_if_success (cases h; done)) <;> rw [h]) | refine AOps.drawn (by kernel_rfl) ?_)
      all_goals
        show (_ : CV) = _
        clear hf hp hin hpl
        refine congrArg CV.bool ?_
        generalize (encVls args).length = L at *
        rw [Bool.eq_iff_iff]
        (try simp_all [maxI]) <;> (try omega)
    by_cases c : k = 6
    · subst c
      show QCalls _ _ _ _ (.bool (decide (n = 0 ∧ args.length = 0)))
      rw [← encVls_length]
      refine QCalls.of Try.func111 rfl (fun args w => Try.call111 args w) (Nat.le_of_ble_eq_true rfl) [(0, .c (encTy (.mk 6 ts))), (1, .c (encVl (.mk 6 n a s args types code)))] rfl fun β hβ => ?_; have hf := Try.func111
      repeat' (first | refine AK.runP Try.hX Try.mixed 300 rfl ?_ | refine AK.condTe rfl asm ?_ | refine AK.condFe rfl asm ?_ | (refine AK.condS rfl (fun h => ?_) (fun h => ?_) <;> first | (cases h; done) | rw [h] | skip) | refine AK.retQ Try.hX hf rfl rfl ?_ | refine AK.region Try.mixed rfl ?_ | refine AOps.done ?_ | refine AOps.runS Try.hX kn rfl ?_ | refine AOps.callq kn rfl rfl rfl rfl (hp) ?_ | refine AOps.box kn rfl rfl rfl rfl rfl rfl ?_ | refine AOps.alloc Try.hX kn rfl rfl rfl rfl rfl rfl rfl ?_ | refine AOps.store Try.hX kn rfl rfl rfl rfl rfl rfl rfl rfl rfl rfl rfl ?_ | refine AOps.buildSlice Try.hX kn rfl rfl rfl rfl rfl rfl rfl rfl rfl rfl rfl rfl ?_ | refine AOps.append Try.hX kn rfl rfl rfl rfl rfl rfl rfl rfl rfl rfl rfl rfl rfl rfl rfl rfl rfl rfl rfl rfl rfl ?_ ?_ | refine AOps.toStr Try.hX kn rfl rfl rfl rfl rfl rfl rfl rfl rfl rfl rfl (by first | exact rfl | exact byte1 _) rfl ?_ | refine AOps.buildArr Try.hX kn rfl rfl rfl rfl rfl rfl rfl rfl ?_ | refine AOps.indexArr Try.hX kn rfl rfl rfl rfl rfl rfl rfl rfl rfl rfl rfl rfl ?_ | refine AOps.runP1 Try.hX kn rfl rfl ?_ | (refine AOps.splitT rfl rfl rfl asm (fun h => ?_) <;> (fail_if_success (cases h; done)) <;> rw [h]) | (refine AOps.splitF rfl rfl rfl asm (fun h => ?_) <;> (fail_if_success (cases h; done)) <;> rw [h]) | (refine AOps.split rfl rfl rfl (fun h => ?_) (fun h => ?_) <;> (fail_if_success (cases h; done)) <;> rw [h]) | refine AOps.drawn (by kernel_rfl) ?_)
      all_goals
        show (_ : CV) = _
        clear hf hp hin hpl
        refine congrArg CV.bool ?_
        generalize (encVls args).length = L at *
        rw [Bool.eq_iff_iff]
        (try simp_all [maxI]) <;> (try omega)
    by_cases c : k = 2
    · subst c
      show QCalls _ _ _ _ (.bool (decide (0 ≤ n ∧ n ≤ 1 ∧ args.length = 0)))
      rw [← encVls_length]
      refine QCalls.of Try.func111 rfl (fun args w => Try.call111 args w) (Nat.le_of_ble_eq_true rfl) [(0, .c (encTy (.mk 2 ts))), (1, .c (encVl (.mk 2 n a s args types code)))] rfl fun β hβ => ?_; have hf := Try.func111
      repeat' (first | refine AK.runP Try.hX Try.mixed 300 rfl ?_ | refine AK.condTe rfl asm ?_ | refine AK.condFe rfl asm ?_ | (refine AK.condS rfl (fun h => ?_) (fun h => ?_) <;> first | (cases h; done) | rw [h] | skip) | refine AK.retQ Try.hX hf rfl rfl ?_ | refine AK.region Try.mixed rfl ?_ | refine AOps.done ?_ | refine AOps.runS Try.hX kn rfl ?_ | refine AOps.callq kn rfl rfl rfl rfl (hp) ?_ | refine AOps.box kn rfl rfl rfl rfl rfl rfl ?_ | refine AOps.alloc Try.hX kn rfl rfl rfl rfl rfl rfl rfl ?_ | refine AOps.store Try.hX kn rfl rfl rfl rfl rfl rfl rfl rfl rfl rfl rfl ?_ | refine AOps.buildSlice Try.hX kn rfl rfl rfl rfl rfl rfl rfl rfl rfl rfl rfl rfl ?_ | refine AOps.append Try.hX kn rfl rfl rfl rfl rfl rfl rfl rfl rfl rfl rfl rfl rfl rfl rfl rfl rfl rfl rfl rfl rfl ?_ ?_ | refine AOps.toStr Try.hX kn rfl rfl rfl rfl rfl rfl rfl rfl rfl rfl rfl (by first | exact rfl | exact byte1 _) rfl ?_ | refine AOps.buildArr Try.hX kn rfl rfl rfl rfl rfl rfl rfl rfl ?_ | refine AOps.indexArr Try.hX kn rfl rfl rfl rfl rfl rfl rfl rfl rfl rfl rfl rfl ?_ | refine AOps.runP1 Try.hX kn rfl rfl ?_ | (refine AOps.splitT rfl rfl rfl asm (fun h => ?_) <;> (fail_if_success (cases h; done)) <;> rw [h]) | (refine AOps.splitF rfl rfl rfl asm (fun h => ?_) <;> (fail_if_success (cases h; done)) <;> rw [h]) | (refine AOps.split rfl rfl rfl (fun h => ?_) (fun h => ?_) <;> (fail_if_success (cases h; done)) <;> rw [h]) | refine AOps.drawn (by kernel_rfl) ?_)
      all_goals
        show (_ : CV) = _
        clear hf hp hin hpl
        refine congrArg CV.bool ?_
        generalize (encVls args).length = L at *
        rw [Bool.eq_iff_iff]
        (try simp_all [maxI]) <;> (try omega)
    by_cases c : k = 3
    · subst c
      show QCalls _ _ _ _ (.bool (decide (-maxI ≤ n ∧ n ≤ maxI ∧ args.length = 0)))
      have h1 := In_calls n
      rw [nIn_dec] at h1
      rw [← encVls_length]
      refine QCalls.of Try.func111 rfl (fun args w => Try.call111 args w) (Nat.le_of_ble_eq_true rfl) [(0, .c (encTy (.mk 3 ts))), (1, .c (encVl (.mk 3 n a s args types code)))] rfl fun β hβ => ?_; have hf := Try.func111
      repeat' (first | refine AK.runP Try.hX Try.mixed 300 rfl ?_ | refine AK.condTe rfl asm ?_ | refine AK.condFe rfl asm ?_ | (refine AK.condS rfl (fun h => ?_) (fun h => ?_) <;> first | (cases h; done) | rw [h] | skip) | refine AK.retQ Try.hX hf rfl rfl ?_ | refine AK.region Try.mixed rfl ?_ | refine AOps.done ?_ | refine AOps.runS Try.hX kn rfl ?_ | refine AOps.callq kn rfl rfl rfl rfl (hp) ?_ | refine AOps.callq kn rfl rfl rfl rfl (h1) ?_ | refine AOps.box kn rfl rfl rfl rfl rfl rfl ?_ | refine AOps.alloc Try.hX kn rfl rfl rfl rfl rfl rfl rfl ?_ | refine AOps.store Try.hX kn rfl rfl rfl rfl rfl rfl rfl rfl rfl rfl rfl ?_ | refine AOps.buildSlice Try.hX kn rfl rfl rfl rfl rfl rfl rfl rfl rfl rfl rfl rfl ?_ | refine AOps.append Try.hX kn rfl rfl rfl rfl rfl rfl rfl rfl rfl rfl rfl rfl rfl rfl rfl rfl rfl rfl rfl rfl rfl ?_ ?_ | refine AOps.toStr Try.hX kn rfl rfl rfl rfl rfl rfl rfl rfl rfl rfl rfl (by first | exact rfl | exact byte1 _) rfl ?_ | refine AOps.buildArr Try.hX kn rfl rfl rfl rfl rfl rfl rfl rfl ?_ | refine AOps.indexArr Try.hX kn rfl rfl rfl rfl rfl rfl rfl rfl rfl rfl rfl rfl ?_ | refine AOps.runP1 Try.hX kn rfl rfl ?_ | (refine AOps.splitT rfl rfl rfl asm (fun h => ?_) <;> (fail_if_success (cases h; done)) <;> rw [h]) | (refine AOps.splitF rfl rfl rfl asm (fun h => ?_) <;> (fail_if_success (cases h; done)) <;> rw [h]) | (refine AOps.split rfl rfl rfl (fun h => ?_) (fun h => ?_) <;> (fail_if_success (cases h; done)) <;> rw [h]) | refine AOps.drawn (by kernel_rfl) ?_)
      all_goals
        show (_ : CV) = _
        clear hf hp hin hpl h1
        refine congrArg CV.bool ?_
        generalize (encVls args).length = L at *
        rw [Bool.eq_iff_iff]
        (try simp_all [maxI]) <;> (try omega)
    by_cases c : k = 4
    · subst c
      show QCalls _ _ _ _ (.bool (decide (0 ≤ n ∧ n ≤ maxI ∧ args.length = 0)))
      have h1 := In_calls n
      rw [nIn_dec] at h1
      rw [← encVls_length]
      refine QCalls.of Try.func111 rfl (fun args w => Try.call111 args w) (Nat.le_of_ble_eq_true rfl) [(0, .c (encTy (.mk 4 ts))), (1, .c (encVl (.mk 4 n a s args types code)))] rfl fun β hβ => ?_; have hf := Try.func111
      repeat' (first | refine AK.runP Try.hX Try.mixed 300 rfl ?_ | refine AK.condTe rfl asm ?_ | refine AK.condFe rfl asm ?_ | (refine AK.condS rfl (fun h => ?_) (fun h => ?_) <;> first | (cases h; done) | rw [h] | skip) | refine AK.retQ Try.hX hf rfl rfl ?_ | refine AK.region Try.mixed rfl ?_ | refine AOps.done ?_ | refine AOps.runS Try.hX kn rfl ?_ | refine AOps.callq kn rfl rfl rfl rfl (hp) ?_ | refine AOps.callq kn rfl rfl rfl rfl (h1) ?_ | refine AOps.box kn rfl rfl rfl rfl rfl rfl ?_ | refine AOps.alloc Try.hX kn rfl rfl rfl rfl rfl rfl rfl ?_ | refine AOps.store Try.hX kn rfl rfl rfl rfl rfl rfl rfl rfl rfl rfl rfl ?_ | refine AOps.buildSlice Try.hX kn rfl rfl rfl rfl rfl rfl rfl rfl rfl rfl rfl rfl ?_ | refine AOps.append Try.hX kn rfl rfl rfl rfl rfl rfl rfl rfl rfl rfl rfl rfl rfl rfl rfl rfl rfl rfl rfl rfl rfl ?_ ?_ | refine AOps.toStr Try.hX kn rfl rfl rfl rfl rfl rfl rfl rfl rfl rfl rfl (by first | exact rfl | exact byte1 _) rfl ?_ | refine AOps.buildArr Try.hX kn rfl rfl rfl rfl rfl rfl rfl rfl ?_ | refine AOps.indexArr Try.hX kn rfl rfl rfl rfl rfl rfl rfl rfl rfl rfl rfl rfl ?_ | refine AOps.runP1 Try.hX kn rfl rfl ?_ | (refine AOps.splitT rfl rfl rfl asm (fun h => ?_) <;> (fail_if_success (cases h; done)) <;> rw [h]) | (refine AOps.splitF rfl rfl rfl asm (fun h => ?_) <;> (fail_if_success (cases h; done)) <;> rw [h]) | (refine AOps.split rfl rfl rfl (fun h => ?_) (fun h => ?_) <;> (fail_if_success (cases h; done)) <;> rw [h]) | refine AOps.drawn (by kernel_rfl) ?_)
      all_goals
        show (_ : CV) = _
        clear hf hp hin hpl h1
        refine congrArg CV.bool ?_
        generalize (encVls args).length = L at *
        rw [Bool.eq_iff_iff]
        (try simp_all [maxI]) <;> (try omega)
    by_cases c : k = 5
    · subst c
      show QCalls _ _ _ _ (.bool (decide (0 ≤ n ∧ n ≤ maxI ∧ args.length = 0)))
      have h1 := In_calls n
      rw [nIn_dec] at h1
      rw [← encVls_length]
      refine QCalls.of Try.func111 rfl (fun args w => Try.call111 args w) (Nat.le_of_ble_eq_true rfl) [(0, .c (encTy (.mk 5 ts))), (1, .c (encVl (.mk 5 n a s args types code)))] rfl fun β hβ => ?_; have hf := Try.func111
      repeat' (first | refine AK.runP Try.hX Try.mixed 300 rfl ?_ | refine AK.condTe rfl asm ?_ | refine AK.condFe rfl asm ?_ | (refine AK.condS rfl (fun h => ?_) (fun h => ?_) <;> first | (cases h; done) | rw [h] | skip) | refine AK.retQ Try.hX hf rfl rfl ?_ | refine AK.region Try.mixed rfl ?_ | refine AOps.done ?_ | refine AOps.runS Try.hX kn rfl ?_ | refine AOps.callq kn rfl rfl rfl rfl (hp) ?_ | refine AOps.callq kn rfl rfl rfl rfl (h1) ?_ | refine AOps.box kn rfl rfl rfl rfl rfl rfl ?_ | refine AOps.alloc Try.hX kn rfl rfl rfl rfl rfl rfl rfl ?_ | refine AOps.store Try.hX kn rfl rfl rfl rfl rfl rfl rfl rfl rfl rfl rfl ?_ | refine AOps.buildSlice Try.hX kn rfl rfl rfl rfl rfl rfl rfl rfl rfl rfl rfl rfl ?_ | refine AOps.append Try.hX kn rfl rfl rfl rfl rfl rfl rfl rfl rfl rfl rfl rfl rfl rfl rfl rfl rfl rfl rfl rfl rfl ?_ ?_ | refine AOps.toStr Try.hX kn rfl rfl rfl rfl rfl rfl rfl rfl rfl rfl rfl (by first | exact rfl | exact byte1 _) rfl ?_ | refine AOps.buildArr Try.hX kn rfl rfl rfl rfl rfl rfl rfl rfl ?_ | refine AOps.indexArr Try.hX kn rfl rfl rfl rfl rfl rfl rfl rfl rfl rfl rfl rfl ?_ | refine AOps.runP1 Try.hX kn rfl rfl ?_ | (refine AOps.splitT rfl rfl rfl asm (fun h => ?_) <;> (fail_if_success (cases h; done)) <;> rw [h]) | (refine AOps.splitF rfl rfl rfl asm (fun h => ?_) <;> (fail_if_success (cases h; done)) <;> rw [h]) | (refine AOps.split rfl rfl rfl (fun h => ?_) (fun h => ?_) <;> (fail_if_success (cases h; done)) <;> rw [h]) | refine AOps.drawn (by kernel_rfl) ?_)
      all_goals
        show (_ : CV) = _
        clear hf hp hin hpl h1
        refine congrArg CV.bool ?_
        generalize (encVls args).length = L at *
        rw [Bool.eq_iff_iff]
        (try simp_all [maxI]) <;> (try omega)
    by_cases c : k = 7
    · subst c
      show QCalls _ _ _ _ (.bool (decide (0 ≤ n ∧ n < 12 ∧ args.length = 0)))
      have h1 := address_calls n
      rw [← encVls_length]
      refine QCalls.of Try.func111 rfl (fun args w => Try.call111 args w) (Nat.le_of_ble_eq_true rfl) [(0, .c (encTy (.mk 7 ts))), (1, .c (encVl (.mk 7 n a s args types code)))] rfl fun β hβ => ?_; have hf := Try.func111
      repeat' (first | refine AK.runP Try.hX Try.mixed 300 rfl ?_ | refine AK.condTe rfl asm ?_ | refine AK.condFe rfl asm ?_ | (refine AK.condS rfl (fun h => ?_) (fun h => ?_) <;> first | (cases h; done) | rw [h] | skip) | refine AK.retQ Try.hX hf rfl rfl ?_ | refine AK.region Try.mixed rfl ?_ | refine AOps.done ?_ | refine AOps.runS Try.hX kn rfl ?_ | refine AOps.callq kn rfl rfl rfl rfl (hp) ?_ | refine AOps.callq kn rfl rfl rfl rfl (h1) ?_ | refine AOps.box kn rfl rfl rfl rfl rfl rfl ?_ | refine AOps.alloc Try.hX kn rfl rfl rfl rfl rfl rfl rfl ?_ | refine AOps.store Try.hX kn rfl rfl rfl rfl rfl rfl rfl rfl rfl rfl rfl ?_ | refine AOps.buildSlice Try.hX kn rfl rfl rfl rfl rfl rfl rfl rfl rfl rfl rfl rfl ?_ | refine AOps.append Try.hX kn rfl rfl rfl rfl rfl rfl rfl rfl rfl rfl rfl rfl rfl rfl rfl rfl rfl rfl rfl rfl rfl ?_ ?_ | refine AOps.toStr Try.hX kn rfl rfl rfl rfl rfl rfl rfl rfl rfl rfl rfl (by first | exact rfl | exact byte1 _) rfl ?_ | refine AOps.buildArr Try.hX kn rfl rfl rfl rfl rfl rfl rfl rfl ?_ | refine AOps.indexArr Try.hX kn rfl rfl rfl rfl rfl rfl rfl rfl rfl rfl rfl rfl ?_ | refine AOps.runP1 Try.hX kn rfl rfl ?_ | (refine AOps.splitT rfl rfl rfl asm (fun h => ?_) <;> (fail_if_success (cases h; done)) <;> rw [h]) | (refine AOps.splitF rfl rfl rfl asm (fun h => ?_) <;> (fail_if_success (cases h; done)) <;> rw [h]) | (refine AOps.split rfl rfl rfl (fun h => ?_) (fun h => ?_) <;> (fail_if_success (cases h; done)) <;> rw [h]) | refine AOps.drawn (by kernel_rfl) ?_)
      all_goals
        show (_ : CV) = _
        clear hf hp hin hpl h1
        refine congrArg CV.bool ?_
        generalize (encVls args).length = L at *
        rw [Bool.eq_iff_iff]
        (try simp_all [maxI]) <;> (try omega)
    by_cases c : k = 9
    · subst c
      show QCalls _ _ _ _ (.bool (decide (n = 0 ∧ args.length ≤ 1) && vHasAll args (tyArg (.mk 9 ts) 0)))
      obtain ⟨u, rfl⟩ := tlen1 (show ts.length = 1 by have : arity 9 = 1 := by decide
                                                      omega)
      show QCalls _ _ _ _ (.bool (decide (n = 0 ∧ args.length ≤ 1) && vHasAll args u))
      have hu : tBad u = false := tBads_mem hbs (by simp)
      have hus : tySize u ≤ 1048577 := by have := tysSize_mem (l := [u]) (x := u) (by simp); omega
      have h1 := each_calls u args (fun x hx => hin x hx u hu hus) (by omega)
      have g1 : [u][0]? = some u := rfl
      obtain ⟨U, us⟩ := u
      refine QCalls.of Try.func111 rfl (fun args w => Try.call111 args w) (Nat.le_of_ble_eq_true rfl) [(0, .c (encTy (.mk 9 [.mk U us]))), (1, .c (encVl (.mk 9 n a s args types code)))] rfl fun β hβ => ?_; have hf := Try.func111
      repeat' (first | refine AK.runP Try.hX Try.mixed 300 rfl ?_ | refine AK.condTe rfl asm ?_ | refine AK.condFe rfl asm ?_ | (refine AK.condS rfl (fun h => ?_) (fun h => ?_) <;> first | (cases h; done) | rw [h] | skip) | refine AK.retQ Try.hX hf rfl rfl ?_ | refine AK.region Try.mixed rfl ?_ | refine AOps.done ?_ | refine AOps.runS Try.hX kn rfl ?_ | refine AOps.callq kn rfl rfl rfl rfl (hp) ?_ | refine AOps.callq kn rfl rfl rfl rfl (h1) ?_ | refine AOps.index Try.hX rfl rfl rfl rfl rfl rfl rfl rfl rfl rfl (0) rfl (tys_at g1) rfl ?_ | refine AOps.box kn rfl rfl rfl rfl rfl rfl ?_ | refine AOps.alloc Try.hX kn rfl rfl rfl rfl rfl rfl rfl ?_ | refine AOps.store Try.hX kn rfl rfl rfl rfl rfl rfl rfl rfl rfl rfl rfl ?_ | refine AOps.buildSlice Try.hX kn rfl rfl rfl rfl rfl rfl rfl rfl rfl rfl rfl rfl ?_ | refine AOps.append Try.hX kn rfl rfl rfl rfl rfl rfl rfl rfl rfl rfl rfl rfl rfl rfl rfl rfl rfl rfl rfl rfl rfl ?_ ?_ | refine AOps.toStr Try.hX kn rfl rfl rfl rfl rfl rfl rfl rfl rfl rfl rfl (by first | exact rfl | exact byte1 _) rfl ?_ | refine AOps.buildArr Try.hX kn rfl rfl rfl rfl rfl rfl rfl rfl ?_ | refine AOps.indexArr Try.hX kn rfl rfl rfl rfl rfl rfl rfl rfl rfl rfl rfl rfl ?_ | refine AOps.runP1 Try.hX kn rfl rfl ?_ | (refine AOps.splitT rfl rfl rfl asm (fun h => ?_) <;> (fail_if_success (cases h; done)) <;> rw [h]) | (refine AOps.splitF rfl rfl rfl asm (fun h => ?_) <;> (fail_if_success (cases h; done)) <;> rw [h]) | (refine AOps.split rfl rfl rfl (fun h => ?_) (fun h => ?_) <;> (fail_if_success (cases h; done)) <;> rw [h]) | refine AOps.drawn (by kernel_rfl) ?_)
      all_goals
        show (_ : CV) = _
        clear hf hp hin hpl h1
        (try simp_all [encVls_length]) <;> (try omega)
    by_cases c : k = 10
    · subst c
      show QCalls _ _ _ _ (.bool (decide (n = 0 ∧ args.length ≤ 24) && vHasAll args (tyArg (.mk 10 ts) 0)))
      obtain ⟨u, rfl⟩ := tlen1 (show ts.length = 1 by have : arity 10 = 1 := by decide
                                                      omega)
      show QCalls _ _ _ _ (.bool (decide (n = 0 ∧ args.length ≤ 24) && vHasAll args u))
      have hu : tBad u = false := tBads_mem hbs (by simp)
      have hus : tySize u ≤ 1048577 := by have := tysSize_mem (l := [u]) (x := u) (by simp); omega
      have h1 := each_calls u args (fun x hx => hin x hx u hu hus) (by omega)
      have g1 : [u][0]? = some u := rfl
      obtain ⟨U, us⟩ := u
      refine QCalls.of Try.func111 rfl (fun args w => Try.call111 args w) (Nat.le_of_ble_eq_true rfl) [(0, .c (encTy (.mk 10 [.mk U us]))), (1, .c (encVl (.mk 10 n a s args types code)))] rfl fun β hβ => ?_; have hf := Try.func111
      repeat' (first | refine AK.runP Try.hX Try.mixed 300 rfl ?_ | refine AK.condTe rfl asm ?_ | refine AK.condFe rfl asm ?_ | (refine AK.condS rfl (fun h => ?_) (fun h => ?_) <;> first | (cases h; done) | rw [h] | skip) | refine AK.retQ Try.hX hf rfl rfl ?_ | refine AK.region Try.mixed rfl ?_ | refine AOps.done ?_ | refine AOps.runS Try.hX kn rfl ?_ | refine AOps.callq kn rfl rfl rfl rfl (hp) ?_ | refine AOps.callq kn rfl rfl rfl rfl (h1) ?_ | refine AOps.index Try.hX rfl rfl rfl rfl rfl rfl rfl rfl rfl rfl (0) rfl (tys_at g1) rfl ?_ | refine AOps.box kn rfl rfl rfl rfl rfl rfl ?_ | refine AOps.alloc Try.hX kn rfl rfl rfl rfl rfl rfl rfl ?_ | refine AOps.store Try.hX kn rfl rfl rfl rfl rfl rfl rfl rfl rfl rfl rfl ?_ | refine AOps.buildSlice Try.hX kn rfl rfl rfl rfl rfl rfl rfl rfl rfl rfl rfl rfl ?_ | refine AOps.append Try.hX kn rfl rfl rfl rfl rfl rfl rfl rfl rfl rfl rfl rfl rfl rfl rfl rfl rfl rfl rfl rfl rfl ?_ ?_ | refine AOps.toStr Try.hX kn rfl rfl rfl rfl rfl rfl rfl rfl rfl rfl rfl (by first | exact rfl | exact byte1 _) rfl ?_ | refine AOps.buildArr Try.hX kn rfl rfl rfl rfl rfl rfl rfl rfl ?_ | refine AOps.indexArr Try.hX kn rfl rfl rfl rfl rfl rfl rfl rfl rfl rfl rfl rfl ?_ | refine AOps.runP1 Try.hX kn rfl rfl ?_ | (refine AOps.splitT rfl rfl rfl asm (fun h => ?_) <;> (fail_if_success (cases h; done)) <;> rw [h]) | (refine AOps.splitF rfl rfl rfl asm (fun h => ?_) <;> (fail_if_success (cases h; done)) <;> rw [h]) | (refine AOps.split rfl rfl rfl (fun h => ?_) (fun h => ?_) <;> (fail_if_success (cases h; done)) <;> rw [h]) | refine AOps.drawn (by kernel_rfl) ?_)
      all_goals
        show (_ : CV) = _
        clear hf hp hin hpl h1
        (try simp_all [encVls_length]) <;> (try omega)
    by_cases c : k = 11
    · subst c
      show QCalls _ _ _ _ (.bool (decide (n = 0 ∧ args.length = 2) && vHasRow args ts))
      obtain ⟨u, u', rfl⟩ := tlen2 (show ts.length = 2 by have : arity 11 = 2 := by decide
                                                          omega)
      by_cases hl : args.length = 2
      · obtain ⟨x, y, rfl⟩ := len2 hl
        have hu : tBad u = false := tBads_mem hbs (by simp)
        have hu' : tBad u' = false := tBads_mem hbs (by simp)
        have hus : tySize u ≤ 1048577 := by have := tysSize_mem (l := [u, u']) (x := u) (by simp); omega
        have hus' : tySize u' ≤ 1048577 := by have := tysSize_mem (l := [u, u']) (x := u') (by simp); omega
        have h1 := hin x (by simp) u hu hus
        have h2 := hin y (by simp) u' hu' hus'
        have g1 : [u, u'][0]? = some u := rfl
        have g2 : [u, u'][1]? = some u' := rfl
        have g3 : [x, y][0]? = some x := rfl
        have g4 : [x, y][1]? = some y := rfl
        have e5 : (decide (n = 0 ∧ [x, y].length = 2) && vHasRow [x, y] [u, u']) = (decide (n = 0) && (vHas x u && vHas y u')) := by
          rw [show vHasRow [x, y] [u, u'] = (vHas x u && vHas y u') from by unfold vHasRow; unfold vHasRow; unfold vHasRow; simp]; simp
        rw [e5]
        clear e5 hpl
        generalize vHas x u = b1 at h1
        generalize vHas y u' = b2 at h2
        obtain ⟨U, us⟩ := u
        obtain ⟨U', us'⟩ := u'
        obtain ⟨x1, x2, x3, x4, x5, x6, x7⟩ := x
        obtain ⟨y1, y2, y3, y4, y5, y6, y7⟩ := y
        refine QCalls.of Try.func111 rfl (fun args w => Try.call111 args w) (Nat.le_of_ble_eq_true rfl) [(0, .c (encTy (.mk 11 [.mk U us, .mk U' us']))), (1, .c (encVl (.mk 11 n a s [.mk x1 x2 x3 x4 x5 x6 x7, .mk y1 y2 y3 y4 y5 y6 y7] types code)))] rfl fun β hβ => ?_; have hf := Try.func111
        repeat' (first | refine AK.runP Try.hX Try.mixed 300 rfl ?_ | refine AK.condTe rfl asm ?_ | refine AK.condFe rfl asm ?_ | (refine AK.condS rfl (fun h => ?_) (fun h => ?_) <;> first | (cases h; done) | rw [h] | skip) | refine AK.retQ Try.hX hf rfl rfl ?_ | refine AK.region Try.mixed rfl ?_ | refine AOps.done ?_ | refine AOps.runS Try.hX kn rfl ?_ | refine AOps.callq kn rfl rfl rfl rfl (hp) ?_ | refine AOps.callq kn rfl rfl rfl rfl (h1) ?_ | refine AOps.callq kn rfl rfl rfl rfl (h2) ?_ | refine AOps.index Try.hX rfl rfl rfl rfl rfl rfl rfl rfl rfl rfl (0) rfl (tys_at g1) rfl ?_ | refine AOps.index Try.hX rfl rfl rfl rfl rfl rfl rfl rfl rfl rfl (1) rfl (tys_at g2) rfl ?_ | refine AOps.index Try.hX rfl rfl rfl rfl rfl rfl rfl rfl rfl rfl (0) rfl (vls_at g3) rfl ?_ | refine AOps.index Try.hX rfl rfl rfl rfl rfl rfl rfl rfl rfl rfl (1) rfl (vls_at g4) rfl ?_ | refine AOps.box kn rfl rfl rfl rfl rfl rfl ?_ | refine AOps.alloc Try.hX kn rfl rfl rfl rfl rfl rfl rfl ?_ | refine AOps.store Try.hX kn rfl rfl rfl rfl rfl rfl rfl rfl rfl rfl rfl ?_ | refine AOps.buildSlice Try.hX kn rfl rfl rfl rfl rfl rfl rfl rfl rfl rfl rfl rfl ?_ | refine AOps.append Try.hX kn rfl rfl rfl rfl rfl rfl rfl rfl rfl rfl rfl rfl rfl rfl rfl rfl rfl rfl rfl rfl rfl ?_ ?_ | refine AOps.toStr Try.hX kn rfl rfl rfl rfl rfl rfl rfl rfl rfl rfl rfl (by first | exact rfl | exact byte1 _) rfl ?_ | refine AOps.buildArr Try.hX kn rfl rfl rfl rfl rfl rfl rfl rfl ?_ | refine AOps.indexArr Try.hX kn rfl rfl rfl rfl rfl rfl rfl rfl rfl rfl rfl rfl ?_ | refine AOps.runP1 Try.hX kn rfl rfl ?_ | (refine AOps.splitT rfl rfl rfl asm (fun h => ?_) <;> (fail_if_success (cases h; done)) <;> rw [h]) | (refine AOps.splitF rfl rfl rfl asm (fun h => ?_) <;> (fail_if_success (cases h; done)) <;> rw [h]) | (refine AOps.split rfl rfl rfl (fun h => ?_) (fun h => ?_) <;> (fail_if_success (cases h; done)) <;> rw [h]) | refine AOps.drawn (by kernel_rfl) ?_)
        all_goals
          show (_ : CV) = _
          clear hf hp hin h1 h2
          simp_all [encVls_length]
          try (intro hb1; cases b1 <;> simp_all)
      · have e5 : ((((encVls args).length : Nat) : Int) == 2) = false := by rw [encVls_length]; simp; omega
        refine QCalls.of Try.func111 rfl (fun args w => Try.call111 args w) (Nat.le_of_ble_eq_true rfl) [(0, .c (encTy (.mk 11 [u, u']))), (1, .c (encVl (.mk 11 n a s args types code)))] rfl fun β hβ => ?_; have hf := Try.func111
        repeat' (first | refine AK.runP Try.hX Try.mixed 300 rfl ?_ | refine AK.condTe rfl asm ?_ | refine AK.condFe rfl asm ?_ | (refine AK.condS rfl (fun h => ?_) (fun h => ?_) <;> first | (cases h; done) | rw [h] | skip) | refine AK.retQ Try.hX hf rfl rfl ?_ | refine AK.region Try.mixed rfl ?_ | refine AOps.done ?_ | refine AOps.runS Try.hX kn rfl ?_ | refine AOps.callq kn rfl rfl rfl rfl (hp) ?_ | refine AOps.box kn rfl rfl rfl rfl rfl rfl ?_ | refine AOps.alloc Try.hX kn rfl rfl rfl rfl rfl rfl rfl ?_ | refine AOps.store Try.hX kn rfl rfl rfl rfl rfl rfl rfl rfl rfl rfl rfl ?_ | refine AOps.buildSlice Try.hX kn rfl rfl rfl rfl rfl rfl rfl rfl rfl rfl rfl rfl ?_ | refine AOps.append Try.hX kn rfl rfl rfl rfl rfl rfl rfl rfl rfl rfl rfl rfl rfl rfl rfl rfl rfl rfl rfl rfl rfl ?_ ?_ | refine AOps.toStr Try.hX kn rfl rfl rfl rfl rfl rfl rfl rfl rfl rfl rfl (by first | exact rfl | exact byte1 _) rfl ?_ | refine AOps.buildArr Try.hX kn rfl rfl rfl rfl rfl rfl rfl rfl ?_ | refine AOps.indexArr Try.hX kn rfl rfl rfl rfl rfl rfl rfl rfl rfl rfl rfl rfl ?_ | refine AOps.runP1 Try.hX kn rfl rfl ?_ | (refine AOps.splitT rfl rfl rfl asm (fun h => ?_) <;> (fail_if_success (cases h; done)) <;> rw [h]) | (refine AOps.splitF rfl rfl rfl asm (fun h => ?_) <;> (fail_if_success (cases h; done)) <;> rw [h]) | (refine AOps.split rfl rfl rfl (fun h => ?_) (fun h => ?_) <;> (fail_if_success (cases h; done)) <;> rw [h]) | refine AOps.drawn (by kernel_rfl) ?_)
        all_goals
          show (_ : CV) = _
          clear hf hp hin hpl
          simp_all
    by_cases c : k = 12
    · subst c
      show QCalls _ _ _ _ (.bool (decide (0 ≤ n ∧ n ≤ 1 ∧ args.length = 1) && vHasAll args (tyArg (.mk 12 ts) n.toNat)))
      obtain ⟨u, u', rfl⟩ := tlen2 (show ts.length = 2 by have : arity 12 = 2 := by decide
                                                          omega)
      by_cases hl : args.length = 1
      · obtain ⟨x, rfl⟩ := len1 hl
        have hu : tBad u = false := tBads_mem hbs (by simp)
        have hu' : tBad u' = false := tBads_mem hbs (by simp)
        have hus : tySize u ≤ 1048577 := by have := tysSize_mem (l := [u, u']) (x := u) (by simp); omega
        have hus' : tySize u' ≤ 1048577 := by have := tysSize_mem (l := [u, u']) (x := u') (by simp); omega
        have h1 := hin x (by simp) u hu hus
        have h2 := hin x (by simp) u' hu' hus'
        have g1 : [u, u'][0]? = some u := rfl
        have g2 : [u, u'][1]? = some u' := rfl
        have g3 : [x][0]? = some x := rfl
        have ev : ∀ w, vHasAll [x] w = vHas x w := fun w => by unfold vHasAll; unfold vHasAll; simp
        rw [ev]
        clear ev hpl
        by_cases n0 : n = 0
        · subst n0
          show QCalls _ _ _ _ (.bool (decide ((0 : Int) ≤ 0 ∧ (0 : Int) ≤ 1 ∧ [x].length = 1) && vHas x u))
          clear h2
          generalize vHas x u = b1 at h1
          obtain ⟨U, us⟩ := u
          obtain ⟨x1, x2, x3, x4, x5, x6, x7⟩ := x
          refine QCalls.of Try.func111 rfl (fun args w => Try.call111 args w) (Nat.le_of_ble_eq_true rfl) [(0, .c (encTy (.mk 12 [.mk U us, u']))), (1, .c (encVl (.mk 12 0 a s [.mk x1 x2 x3 x4 x5 x6 x7] types code)))] rfl fun β hβ => ?_; have hf := Try.func111
          repeat' (first | refine AK.runP Try.hX Try.mixed 300 rfl ?_ | refine AK.condTe rfl asm ?_ | refine AK.condFe rfl asm ?_ | (refine AK.condS rfl (fun h => ?_) (fun h => ?_) <;> first | (cases h; done) | rw [h] | skip) | refine AK.retQ Try.hX hf rfl rfl ?_ | refine AK.region Try.mixed rfl ?_ | refine AOps.done ?_ | refine AOps.runS Try.hX kn rfl ?_ | refine AOps.callq kn rfl rfl rfl rfl (hp) ?_ | refine AOps.callq kn rfl rfl rfl rfl (h1) ?_ | refine AOps.index Try.hX rfl rfl rfl rfl rfl rfl rfl rfl rfl rfl (0) rfl (tys_at g1) rfl ?_ | refine AOps.index Try.hX rfl rfl rfl rfl rfl rfl rfl rfl rfl rfl (0) rfl (vls_at g3) rfl ?_ | refine AOps.box kn rfl rfl rfl rfl rfl rfl ?_ | refine AOps.alloc Try.hX kn rfl rfl rfl rfl rfl rfl rfl ?_ | refine AOps.store Try.hX kn rfl rfl rfl rfl rfl rfl rfl rfl rfl rfl rfl ?_ | refine AOps.buildSlice Try.hX kn rfl rfl rfl rfl rfl rfl rfl rfl rfl rfl rfl rfl ?_ | refine AOps.append Try.hX kn rfl rfl rfl rfl rfl rfl rfl rfl rfl rfl rfl rfl rfl rfl rfl rfl rfl rfl rfl rfl rfl ?_ ?_ | refine AOps.toStr Try.hX kn rfl rfl rfl rfl rfl rfl rfl rfl rfl rfl rfl (by first | exact rfl | exact byte1 _) rfl ?_ | refine AOps.buildArr Try.hX kn rfl rfl rfl rfl rfl rfl rfl rfl ?_ | refine AOps.indexArr Try.hX kn rfl rfl rfl rfl rfl rfl rfl rfl rfl rfl rfl rfl ?_ | refine AOps.runP1 Try.hX kn rfl rfl ?_ | (refine AOps.splitT rfl rfl rfl asm (fun h => ?_) <;> (fail_if_success (cases h; done)) <;> rw [h]) | (refine AOps.splitF rfl rfl rfl asm (fun h => ?_) <;> (fail_if_success (cases h; done)) <;> rw [h]) | (refine AOps.split rfl rfl rfl (fun h => ?_) (fun h => ?_) <;> (fail_if_success (cases h; done)) <;> rw [h]) | refine AOps.drawn (by kernel_rfl) ?_)
          all_goals
            show (_ : CV) = _
            clear hf hp hin h1
            simp_all [encVls_length]
        by_cases n1 : n = 1
        · subst n1
          show QCalls _ _ _ _ (.bool (decide ((0 : Int) ≤ 1 ∧ (1 : Int) ≤ 1 ∧ [x].length = 1) && vHas x u'))
          clear h1
          generalize vHas x u' = b1 at h2
          obtain ⟨U, us⟩ := u'
          obtain ⟨x1, x2, x3, x4, x5, x6, x7⟩ := x
          refine QCalls.of Try.func111 rfl (fun args w => Try.call111 args w) (Nat.le_of_ble_eq_true rfl) [(0, .c (encTy (.mk 12 [u, .mk U us]))), (1, .c (encVl (.mk 12 1 a s [.mk x1 x2 x3 x4 x5 x6 x7] types code)))] rfl fun β hβ => ?_; have hf := Try.func111
          repeat' (first | refine AK.runP Try.hX Try.mixed 300 rfl ?_ | refine AK.condTe rfl asm ?_ | refine AK.condFe rfl asm ?_ | (refine AK.condS rfl (fun h => ?_) (fun h => ?_) <;> first | (cases h; done) | rw [h] | skip) | refine AK.retQ Try.hX hf rfl rfl ?_ | refine AK.region Try.mixed rfl ?_ | refine AOps.done ?_ | refine AOps.runS Try.hX kn rfl ?_ | refine AOps.callq kn rfl rfl rfl rfl (hp) ?_ | refine AOps.callq kn rfl rfl rfl rfl (h2) ?_ | refine AOps.index Try.hX rfl rfl rfl rfl rfl rfl rfl rfl rfl rfl (1) rfl (tys_at g2) rfl ?_ | refine AOps.index Try.hX rfl rfl rfl rfl rfl rfl rfl rfl rfl rfl (0) rfl (vls_at g3) rfl ?_ | refine AOps.box kn rfl rfl rfl rfl rfl rfl ?_ | refine AOps.alloc Try.hX kn rfl rfl rfl rfl rfl rfl rfl ?_ | refine AOps.store Try.hX kn rfl rfl rfl rfl rfl rfl rfl rfl rfl rfl rfl ?_ | refine AOps.buildSlice Try.hX kn rfl rfl rfl rfl rfl rfl rfl rfl rfl rfl rfl rfl ?_ | refine AOps.append Try.hX kn rfl rfl rfl rfl rfl rfl rfl rfl rfl rfl rfl rfl rfl rfl rfl rfl rfl rfl rfl rfl rfl ?_ ?_ | refine AOps.toStr Try.hX kn rfl rfl rfl rfl rfl rfl rfl rfl rfl rfl rfl (by first | exact rfl | exact byte1 _) rfl ?_ | refine AOps.buildArr Try.hX kn rfl rfl rfl rfl rfl rfl rfl rfl ?_ | refine AOps.indexArr Try.hX kn rfl rfl rfl rfl rfl rfl rfl rfl rfl rfl rfl rfl ?_ | refine AOps.runP1 Try.hX kn rfl rfl ?_ | (refine AOps.splitT rfl rfl rfl asm (fun h => ?_) <;> (fail_if_success (cases h; done)) <;> rw [h]) | (refine AOps.splitF rfl rfl rfl asm (fun h => ?_) <;> (fail_if_success (cases h; done)) <;> rw [h]) | (refine AOps.split rfl rfl rfl (fun h => ?_) (fun h => ?_) <;> (fail_if_success (cases h; done)) <;> rw [h]) | refine AOps.drawn (by kernel_rfl) ?_)
          all_goals
            show (_ : CV) = _
            clear hf hp hin h2
            simp_all [encVls_length]
        · rw [show decide (0 ≤ n ∧ n ≤ 1 ∧ [x].length = 1) = false from by simp; omega, Bool.false_and]
          by_cases n2 : n < 0
          · have e5 : decide (n ≥ 0) = false := by simp; omega
            refine QCalls.of Try.func111 rfl (fun args w => Try.call111 args w) (Nat.le_of_ble_eq_true rfl) [(0, .c (encTy (.mk 12 [u, u']))), (1, .c (encVl (.mk 12 n a s [x] types code)))] rfl fun β hβ => ?_; have hf := Try.func111
            exact dq
          · have e5 : decide (n ≥ 0) = true := by simp; omega
            have e6 : decide (n ≤ 1) = false := by simp; omega
            refine QCalls.of Try.func111 rfl (fun args w => Try.call111 args w) (Nat.le_of_ble_eq_true rfl) [(0, .c (encTy (.mk 12 [u, u']))), (1, .c (encVl (.mk 12 n a s [x] types code)))] rfl fun β hβ => ?_; have hf := Try.func111
            exact dq
      · have e5 : ((((encVls args).length : Nat) : Int) == 1) = false := by rw [encVls_length]; simp; omega
        refine QCalls.of Try.func111 rfl (fun args w => Try.call111 args w) (Nat.le_of_ble_eq_true rfl) [(0, .c (encTy (.mk 12 [u, u']))), (1, .c (encVl (.mk 12 n a s args types code)))] rfl fun β hβ => ?_; have hf := Try.func111
        repeat' (first | refine AK.runP Try.hX Try.mixed 300 rfl ?_ | refine AK.condTe rfl asm ?_ | refine AK.condFe rfl asm ?_ | (refine AK.condS rfl (fun h => ?_) (fun h => ?_) <;> first | (cases h; done) | rw [h] | skip) | refine AK.retQ Try.hX hf rfl rfl ?_ | refine AK.region Try.mixed rfl ?_ | refine AOps.done ?_ | refine AOps.runS Try.hX kn rfl ?_ | refine AOps.callq kn rfl rfl rfl rfl (hp) ?_ | refine AOps.box kn rfl rfl rfl rfl rfl rfl ?_ | refine AOps.alloc Try.hX kn rfl rfl rfl rfl rfl rfl rfl ?_ | refine AOps.store Try.hX kn rfl rfl rfl rfl rfl rfl rfl rfl rfl rfl rfl ?_ | refine AOps.buildSlice Try.hX kn rfl rfl rfl rfl rfl rfl rfl rfl rfl rfl rfl rfl ?_ | refine AOps.append Try.hX kn rfl rfl rfl rfl rfl rfl rfl rfl rfl rfl rfl rfl rfl rfl rfl rfl rfl rfl rfl rfl rfl ?_ ?_ | refine AOps.toStr Try.hX kn rfl rfl rfl rfl rfl rfl rfl rfl rfl rfl rfl (by first | exact rfl | exact byte1 _) rfl ?_ | refine AOps.buildArr Try.hX kn rfl rfl rfl rfl rfl rfl rfl rfl ?_ | refine AOps.indexArr Try.hX kn rfl rfl rfl rfl rfl rfl rfl rfl rfl rfl rfl rfl ?_ | refine AOps.runP1 Try.hX kn rfl rfl ?_ | (refine AOps.splitT rfl rfl rfl asm (fun h => ?_) <;> (fail_if_success (cases h; done)) <;> rw [h]) | (refine AOps.splitF rfl rfl rfl asm (fun h => ?_) <;> (fail_if_success (cases h; done)) <;> rw [h]) | (refine AOps.split rfl rfl rfl (fun h => ?_) (fun h => ?_) <;> (fail_if_success (cases h; done)) <;> rw [h]) | refine AOps.drawn (by kernel_rfl) ?_)
        all_goals
          show (_ : CV) = _
          clear hf hp hin hpl
          simp_all
    by_cases c : k = 13
    · subst c
      show QCalls _ _ _ _ (.bool (decide (n = 0 ∧ args.length ≤ 24) && mapB (.mk 11 ts) none args))
      by_cases n0 : n = 0
      rotate_left
      · have e5 : (n != 0) = true := by simpa using n0
        rw [show decide (n = 0 ∧ args.length ≤ 24) = false from by simp [n0], Bool.false_and]
        refine QCalls.of Try.func111 rfl (fun args w => Try.call111 args w) (Nat.le_of_ble_eq_true rfl) [(0, .c (encTy (.mk 13 ts))), (1, .c (encVl (.mk 13 n a s args types code)))] rfl fun β hβ => ?_; have hf := Try.func111
        exact dq
      subst n0
      by_cases hl : args.length ≤ 24
      rotate_left
      · have e5 : decide ((((encVls args).length : Nat) : Int) > 24) = true := by rw [encVls_length]; simp; omega
        rw [show decide ((0 : Int) = 0 ∧ args.length ≤ 24) = false from by simp; omega, Bool.false_and]
        refine QCalls.of Try.func111 rfl (fun args w => Try.call111 args w) (Nat.le_of_ble_eq_true rfl) [(0, .c (encTy (.mk 13 ts))), (1, .c (encVl (.mk 13 0 a s args types code)))] rfl fun β hβ => ?_; have hf := Try.func111
        exact dq
      have e5 : decide ((((encVls args).length : Nat) : Int) > 24) = false := by rw [encVls_length]; simp; omega
      rw [show decide ((0 : Int) = 0 ∧ args.length ≤ 24) = true from by simp [hl], Bool.true_and]
      obtain ⟨u, u', rfl⟩ := tlen2 (show ts.length = 2 by have : arity 13 = 2 := by decide
                                                          omega)
      have hu : tBad u = false := tBads_mem hbs (by simp)
      have hpb : tBad (.mk 11 [u, u']) = false := by
        simp only [tBad, Bool.or_eq_false_iff]; exact ⟨by show decide (arity 11 ≠ 2) = false; decide, hbs⟩
      have hps : tySize (.mk 11 [u, u']) ≤ 1048577 := by simp only [tySize]; omega
      clear hpl
      refine QCalls.of Try.func111 rfl (fun args w => Try.call111 args w) (Nat.le_of_ble_eq_true rfl) [(0, .c (encTy (.mk 13 [u, u']))), (1, .c (encVl (.mk 13 0 a s args types code)))] rfl fun β hβ => ?_; have hf := Try.func111
      repeat' (first | refine AK.runP Try.hX Try.mixed 300 rfl ?_ | refine AK.condTe rfl asm ?_ | refine AK.condFe rfl asm ?_ | (refine AK.condS rfl (fun h => ?_) (fun h => ?_) <;> first | (cases h; done) | rw [h] | skip) | refine AK.retQ Try.hX hf rfl rfl ?_ | refine AK.region Try.mixed rfl ?_ | refine AOps.done ?_ | refine AOps.runS Try.hX kn rfl ?_ | refine AOps.callq kn rfl rfl rfl rfl (hp) ?_ | refine AOps.box kn rfl rfl rfl rfl rfl rfl ?_ | refine AOps.alloc Try.hX kn rfl rfl rfl rfl rfl rfl rfl ?_ | refine AOps.store Try.hX kn rfl rfl rfl rfl rfl rfl rfl rfl rfl rfl rfl ?_ | refine AOps.buildSlice Try.hX kn rfl rfl rfl rfl rfl rfl rfl rfl rfl rfl rfl rfl ?_ | refine AOps.append Try.hX kn rfl rfl rfl rfl rfl rfl rfl rfl rfl rfl rfl rfl rfl rfl rfl rfl rfl rfl rfl rfl rfl ?_ ?_ | refine AOps.toStr Try.hX kn rfl rfl rfl rfl rfl rfl rfl rfl rfl rfl rfl (by first | exact rfl | exact byte1 _) rfl ?_ | refine AOps.buildArr Try.hX kn rfl rfl rfl rfl rfl rfl rfl rfl ?_ | refine AOps.indexArr Try.hX kn rfl rfl rfl rfl rfl rfl rfl rfl rfl rfl rfl rfl ?_ | refine AOps.runP1 Try.hX kn rfl rfl ?_ | (refine AOps.splitT rfl rfl rfl asm (fun h => ?_) <;> (fail_if_success (cases h; done)) <;> rw [h]) | (refine AOps.splitF rfl rfl rfl asm (fun h => ?_) <;> (fail_if_success (cases h; done)) <;> rw [h]) | (refine AOps.split rfl rfl rfl (fun h => ?_) (fun h => ?_) <;> (fail_if_success (cases h; done)) <;> rw [h]) | refine AOps.drawn (by kernel_rfl) ?_)
      refine AK.loopE (α := Nat) (fun i => i ≤ args.length ∧ mapB (.mk 11 [u, u']) none args = mapB (.mk 11 [u, u']) (pre args i) (args.drop i) ∧ ∀ p, pre args i = some p → p ∈ args ∧ vHas p (.mk 11 [u, u']) = true) (fun i => args.length - i)
        (fun i => [(192, .c (.int .i64 i)), (191, .c (.int .i64 (encVls args).length)), (190, .c (.sl 7 (encVls args))), (2, .ptr 2 0), (3, .ptr 3 0)])
        (fun _ => [(2, [.c (.int .i64 13), .c (.sl 2 (encTys [u, u']))]), (3, [.c (.int .i64 13), .c (.int .i64 0), .c (.int .i64 a), .c (.str s), .c (.sl 7 (encVls args)), .c (.sl 2 (encTys types)), .c (.sl 5 (encNds code))])]) (fun _ => []) [2, 3] 0
        ⟨by omega, rfl, fun p h => by simp [pre] at h⟩ ⟨.inl rfl, .inl rfl, .inl rfl, .inl rfl, .inl rfl, trivial⟩ ⟨rfl, rfl, trivial⟩ trivial rfl rfl rfl ?_
      rintro i ⟨hi, hinv, hpre⟩ ih
      rcases get_or args i hi with ⟨x, hx, hm⟩ | he
      · have hc := vls_lt hx
        have hq := hin x hm _ hpb hps
        have hlt := lt_of_get hx
        rw [drop_at hx] at hinv
        have hnx : pre args (i + 1) = some x := by simp only [pre, Nat.add_one_ne_zero, if_false, Nat.add_sub_cancel]; exact hx
        by_cases hxh : vHas x (.mk 11 [u, u']) = true
        rotate_left
        · have hxf : vHas x (.mk 11 [u, u']) = false := by simpa using hxh
          rw [hxf] at hq
          have h0 : mapB (.mk 11 [u, u']) none args = false := by
            rw [hinv]; cases pre args i <;> simp only [mapB_some_cons, mapB_none_cons, hxf, Bool.false_and]
          rw [h0]
          clear hinv h0
          obtain ⟨x1, x2, x3, x4, x5, x6, x7⟩ := x
          have tsr1 := vls_at hx
          exact dq
        · rw [hxh] at hq
          obtain ⟨x2, x3, x4, x6, x7, xk, xv, rfl, hxk, hxv⟩ := has11 hxh
          by_cases i0 : i = 0
          · subst i0
            have hinv' : mapB (.mk 11 [u, u']) none args = mapB (.mk 11 [u, u']) (some (.mk 11 x2 x3 x4 [xk, xv] x6 x7)) (args.drop 1) := by
              rw [hinv]; simp only [pre, if_true, mapB_none_cons, hxh, Bool.true_and]
            repeat' (first | refine AK.runP Try.hX Try.mixed 300 rfl ?_ | refine AK.condTe rfl asm ?_ | refine AK.condFe rfl asm ?_ | (refine AK.condS rfl (fun h => ?_) (fun h => ?_) <;> first | (cases h; done) | rw [h] | skip) | refine AK.retQ Try.hX hf rfl rfl ?_ | refine AK.region Try.mixed rfl ?_ | refine AOps.done ?_ | refine AOps.runS Try.hX kn rfl ?_ | refine AOps.index Try.hX rfl rfl rfl rfl rfl rfl rfl rfl rfl rfl (0) rfl (vls_at hx) rfl ?_ | refine AOps.callq kn rfl rfl rfl rfl (hq) ?_ | refine AOps.box kn rfl rfl rfl rfl rfl rfl ?_ | refine AOps.alloc Try.hX kn rfl rfl rfl rfl rfl rfl rfl ?_ | refine AOps.store Try.hX kn rfl rfl rfl rfl rfl rfl rfl rfl rfl rfl rfl ?_ | refine AOps.buildSlice Try.hX kn rfl rfl rfl rfl rfl rfl rfl rfl rfl rfl rfl rfl ?_ | refine AOps.append Try.hX kn rfl rfl rfl rfl rfl rfl rfl rfl rfl rfl rfl rfl rfl rfl rfl rfl rfl rfl rfl rfl rfl ?_ ?_ | refine AOps.toStr Try.hX kn rfl rfl rfl rfl rfl rfl rfl rfl rfl rfl rfl (by first | exact rfl | exact byte1 _) rfl ?_ | refine AOps.buildArr Try.hX kn rfl rfl rfl rfl rfl rfl rfl rfl ?_ | refine AOps.indexArr Try.hX kn rfl rfl rfl rfl rfl rfl rfl rfl rfl rfl rfl rfl ?_ | refine AOps.runP1 Try.hX kn rfl rfl ?_ | (refine AOps.splitT rfl rfl rfl asm (fun h => ?_) <;> (fail_if_success (cases h; done)) <;> rw [h]) | (refine AOps.splitF rfl rfl rfl asm (fun h => ?_) <;> (fail_if_success (cases h; done)) <;> rw [h]) | (refine AOps.split rfl rfl rfl (fun h => ?_) (fun h => ?_) <;> (fail_if_success (cases h; done)) <;> rw [h]) | refine AOps.drawn (by kernel_rfl) ?_)
            refine AK.again (ih 1 ⟨hlt, ?_, ?_⟩ (by omega)) ⟨.inl rfl, .inl rfl, .inl rfl, .inl rfl, .inl rfl, trivial⟩ ⟨rfl, rfl, trivial⟩ trivial rfl rfl rfl
            · rw [hinv', hnx]
            · intro p hp; rw [hnx] at hp; cases hp; exact ⟨hm, hxh⟩
          · have ei : decide (((i : Nat) : Int) > 0) = true := by simp; omega
            obtain ⟨p, hpp⟩ : ∃ p, args[i - 1]? = some p := ⟨args[i - 1]'(by omega), by simp⟩
            have hpi : pre args i = some p := by simp only [pre, if_neg i0]; exact hpp
            obtain ⟨hpm, hph⟩ := hpre p hpi
            have hws : IntKind.i64.wrap (((i : Nat) : Int) - 1) = ((i - 1 : Nat) : Int) := by rw [w64 (by omega) (by omega)]; omega
            have hpsz := vlsSize_mem hpm
            obtain ⟨p2, p3, p4, p6, p7, pk, pv, rfl, hpk, hpv⟩ := has11 hph
            have hcq := compare_calls pk xk u hu hpk hxk (by simp only [vlSize, vlsSize] at hpsz; omega)
            have hmb : mapB (.mk 11 [u, u']) none args = (decide (vCmp pk xk < 0) && mapB (.mk 11 [u, u']) (some (.mk 11 x2 x3 x4 [xk, xv] x6 x7)) (args.drop (i + 1))) := by
              rw [hinv, hpi]
              rw [mapB_some_cons]
              rw [hxh, Bool.true_and]; rfl
            have g1 : [pk, pv][0]? = some pk := rfl
            have g2 : [xk, xv][0]? = some xk := rfl
            by_cases hcm : vCmp pk xk < 0
            · have ec : decide (vCmp pk xk ≥ 0) = false := by simp; omega
              rw [show decide (vCmp pk xk < 0) = true from by simpa using hcm, Bool.true_and] at hmb
              obtain ⟨a1, a2, a3, a4, a5, a6, a7⟩ := xk
              obtain ⟨b1, b2, b3, b4, b5, b6, b7⟩ := pk
              repeat' (first | refine AK.runP Try.hX Try.mixed 300 rfl ?_ | refine AK.condTe rfl asm ?_ | refine AK.condFe rfl asm ?_ | (refine AK.condS rfl (fun h => ?_) (fun h => ?_) <;> first | (cases h; done) | rw [h] | skip) | refine AK.retQ Try.hX hf rfl rfl ?_ | refine AK.region Try.mixed rfl ?_ | refine AOps.done ?_ | refine AOps.runS Try.hX kn rfl ?_ | refine AOps.index Try.hX rfl rfl rfl rfl rfl rfl rfl rfl rfl rfl (i) rfl (vls_at hx) rfl ?_ | refine AOps.callq kn rfl rfl rfl rfl (hq) ?_ | refine AOps.index Try.hX rfl rfl rfl rfl rfl rfl rfl rfl rfl rfl (i - 1) hws (vls_at hpp) rfl ?_ | refine AOps.index Try.hX rfl rfl rfl rfl rfl rfl rfl rfl rfl rfl (0) rfl (vls_at g1) rfl ?_ | refine AOps.index Try.hX rfl rfl rfl rfl rfl rfl rfl rfl rfl rfl (0) rfl (vls_at g2) rfl ?_ | refine AOps.callq kn rfl rfl rfl rfl (hcq) ?_ | refine AOps.box kn rfl rfl rfl rfl rfl rfl ?_ | refine AOps.alloc Try.hX kn rfl rfl rfl rfl rfl rfl rfl ?_ | refine AOps.store Try.hX kn rfl rfl rfl rfl rfl rfl rfl rfl rfl rfl rfl ?_ | refine AOps.buildSlice Try.hX kn rfl rfl rfl rfl rfl rfl rfl rfl rfl rfl rfl rfl ?_ | refine AOps.append Try.hX kn rfl rfl rfl rfl rfl rfl rfl rfl rfl rfl rfl rfl rfl rfl rfl rfl rfl rfl rfl rfl rfl ?_ ?_ | refine AOps.toStr Try.hX kn rfl rfl rfl rfl rfl rfl rfl rfl rfl rfl rfl (by first | exact rfl | exact byte1 _) rfl ?_ | refine AOps.buildArr Try.hX kn rfl rfl rfl rfl rfl rfl rfl rfl ?_ | refine AOps.indexArr Try.hX kn rfl rfl rfl rfl rfl rfl rfl rfl rfl rfl rfl rfl ?_ | refine AOps.runP1 Try.hX kn rfl rfl ?_ | (refine AOps.splitT rfl rfl rfl asm (fun h => ?_) <;> (fail_if_success (cases h; done)) <;> rw [h]) | (refine AOps.splitF rfl rfl rfl asm (fun h => ?_) <;> (fail_if_success (cases h; done)) <;> rw [h]) | (refine AOps.split rfl rfl rfl (fun h => ?_) (fun h => ?_) <;> (fail_if_success (cases h; done)) <;> rw [h]) | refine AOps.drawn (by kernel_rfl) ?_)
              refine AK.again (ih (i + 1) ⟨hlt, ?_, ?_⟩ (by omega)) ⟨.inl (succ64 (by omega)), .inl rfl, .inl rfl, .inl rfl, .inl rfl, trivial⟩ ⟨rfl, rfl, trivial⟩ trivial rfl rfl rfl
              · rw [hmb, hnx]
              · intro p hp; rw [hnx] at hp; cases hp; exact ⟨hm, hxh⟩
            · have ec : decide (vCmp pk xk ≥ 0) = true := by simp; omega
              rw [show decide (vCmp pk xk < 0) = false from by simpa using hcm, Bool.false_and] at hmb
              rw [hmb]
              clear hmb hinv
              obtain ⟨a1, a2, a3, a4, a5, a6, a7⟩ := xk
              obtain ⟨b1, b2, b3, b4, b5, b6, b7⟩ := pk
              repeat' (first | refine AK.runP Try.hX Try.mixed 300 rfl ?_ | refine AK.condTe rfl asm ?_ | refine AK.condFe rfl asm ?_ | (refine AK.condS rfl (fun h => ?_) (fun h => ?_) <;> first | (cases h; done) | rw [h] | skip) | refine AK.retQ Try.hX hf rfl rfl ?_ | refine AK.region Try.mixed rfl ?_ | refine AOps.done ?_ | refine AOps.runS Try.hX kn rfl ?_ | refine AOps.index Try.hX rfl rfl rfl rfl rfl rfl rfl rfl rfl rfl (i) rfl (vls_at hx) rfl ?_ | refine AOps.callq kn rfl rfl rfl rfl (hq) ?_ | refine AOps.index Try.hX rfl rfl rfl rfl rfl rfl rfl rfl rfl rfl (i - 1) hws (vls_at hpp) rfl ?_ | refine AOps.index Try.hX rfl rfl rfl rfl rfl rfl rfl rfl rfl rfl (0) rfl (vls_at g1) rfl ?_ | refine AOps.index Try.hX rfl rfl rfl rfl rfl rfl rfl rfl rfl rfl (0) rfl (vls_at g2) rfl ?_ | refine AOps.callq kn rfl rfl rfl rfl (hcq) ?_ | refine AOps.box kn rfl rfl rfl rfl rfl rfl ?_ | refine AOps.alloc Try.hX kn rfl rfl rfl rfl rfl rfl rfl ?_ | refine AOps.store Try.hX kn rfl rfl rfl rfl rfl rfl rfl rfl rfl rfl rfl ?_ | refine AOps.buildSlice Try.hX kn rfl rfl rfl rfl rfl rfl rfl rfl rfl rfl rfl rfl ?_ | refine AOps.append Try.hX kn rfl rfl rfl rfl rfl rfl rfl rfl rfl rfl rfl rfl rfl rfl rfl rfl rfl rfl rfl rfl rfl ?_ ?_ | refine AOps.toStr Try.hX kn rfl rfl rfl rfl rfl rfl rfl rfl rfl rfl rfl (by first | exact rfl | exact byte1 _) rfl ?_ | refine AOps.buildArr Try.hX kn rfl rfl rfl rfl rfl rfl rfl rfl ?_ | refine AOps.indexArr Try.hX kn rfl rfl rfl rfl rfl rfl rfl rfl rfl rfl rfl rfl ?_ | refine AOps.runP1 Try.hX kn rfl rfl ?_ | (refine AOps.splitT rfl rfl rfl asm (fun h => ?_) <;> (fail_if_success (cases h; done)) <;> rw [h]) | (refine AOps.splitF rfl rfl rfl asm (fun h => ?_) <;> (fail_if_success (cases h; done)) <;> rw [h]) | (refine AOps.split rfl rfl rfl (fun h => ?_) (fun h => ?_) <;> (fail_if_success (cases h; done)) <;> rw [h]) | refine AOps.drawn (by kernel_rfl) ?_)
              all_goals rfl
      · have hc := vls_end he
        have h0 : mapB (.mk 11 [u, u']) none args = true := by
          rw [hinv, he, List.drop_length]; exact mapB_nil _ _
        rw [h0]
        clear ih
        exact dq
    by_cases c : k = 14
    · subst c
      show QCalls _ _ _ _ (.bool (tySame (tyArg (.mk 14 ts) 0) (types.getD 0 ty0) && tySame (tyArg (.mk 14 ts) 1) (types.getD 1 ty0)))
      obtain ⟨u, u', rfl⟩ := tlen2 (show ts.length = 2 by have : arity 14 = 2 := by decide
                                                          omega)
      obtain ⟨w, w', rfl⟩ := tlen2 (show types.length = 2 by
        have h : decide (types.length = 2 ∧ a = 0 ∧ n = 0 ∧ s = [] ∧ args.length = 0) = true := hpl
        simp only [decide_eq_true_eq] at h; exact h.1)
      show QCalls _ _ _ _ (.bool (tySame u w && tySame u' w'))
      have hus : tySize u ≤ 1048577 := by have := tysSize_mem (l := [u, u']) (x := u) (by simp); omega
      have hus' : tySize u' ≤ 1048577 := by have := tysSize_mem (l := [u, u']) (x := u') (by simp); omega
      have h1 := Same_calls u w (by omega)
      have h2 := Same_calls u' w' (by omega)
      have g1 : [u, u'][0]? = some u := rfl
      have g2 : [u, u'][1]? = some u' := rfl
      have g3 : [w, w'][0]? = some w := rfl
      have g4 : [w, w'][1]? = some w' := rfl
      generalize tySame u w = b1 at h1
      generalize tySame u' w' = b2 at h2
      clear hpl
      obtain ⟨u1, u2⟩ := u
      obtain ⟨u3, u4⟩ := u'
      obtain ⟨w1, w2⟩ := w
      obtain ⟨w3, w4⟩ := w'
      refine QCalls.of Try.func111 rfl (fun args w => Try.call111 args w) (Nat.le_of_ble_eq_true rfl) [(0, .c (encTy (.mk 14 [.mk u1 u2, .mk u3 u4]))), (1, .c (encVl (.mk 14 n a s args [.mk w1 w2, .mk w3 w4] code)))] rfl fun β hβ => ?_; have hf := Try.func111
      repeat' (first | refine AK.runP Try.hX Try.mixed 300 rfl ?_ | refine AK.condTe rfl asm ?_ | refine AK.condFe rfl asm ?_ | (refine AK.condS rfl (fun h => ?_) (fun h => ?_) <;> first | (cases h; done) | rw [h] | skip) | refine AK.retQ Try.hX hf rfl rfl ?_ | refine AK.region Try.mixed rfl ?_ | refine AOps.done ?_ | refine AOps.runS Try.hX kn rfl ?_ | refine AOps.callq kn rfl rfl rfl rfl (hp) ?_ | refine AOps.callq kn rfl rfl rfl rfl (h1) ?_ | refine AOps.callq kn rfl rfl rfl rfl (h2) ?_ | refine AOps.index Try.hX rfl rfl rfl rfl rfl rfl rfl rfl rfl rfl (0) rfl (tys_at g1) rfl ?_ | refine AOps.index Try.hX rfl rfl rfl rfl rfl rfl rfl rfl rfl rfl (1) rfl (tys_at g2) rfl ?_ | refine AOps.index Try.hX rfl rfl rfl rfl rfl rfl rfl rfl rfl rfl (0) rfl (tys_at g3) rfl ?_ | refine AOps.index Try.hX rfl rfl rfl rfl rfl rfl rfl rfl rfl rfl (1) rfl (tys_at g4) rfl ?_ | refine AOps.box kn rfl rfl rfl rfl rfl rfl ?_ | refine AOps.alloc Try.hX kn rfl rfl rfl rfl rfl rfl rfl ?_ | refine AOps.store Try.hX kn rfl rfl rfl rfl rfl rfl rfl rfl rfl rfl rfl ?_ | refine AOps.buildSlice Try.hX kn rfl rfl rfl rfl rfl rfl rfl rfl rfl rfl rfl rfl ?_ | refine AOps.append Try.hX kn rfl rfl rfl rfl rfl rfl rfl rfl rfl rfl rfl rfl rfl rfl rfl rfl rfl rfl rfl rfl rfl ?_ ?_ | refine AOps.toStr Try.hX kn rfl rfl rfl rfl rfl rfl rfl rfl rfl rfl rfl (by first | exact rfl | exact byte1 _) rfl ?_ | refine AOps.buildArr Try.hX kn rfl rfl rfl rfl rfl rfl rfl rfl ?_ | refine AOps.indexArr Try.hX kn rfl rfl rfl rfl rfl rfl rfl rfl rfl rfl rfl rfl ?_ | refine AOps.runP1 Try.hX kn rfl rfl ?_ | (refine AOps.splitT rfl rfl rfl asm (fun h => ?_) <;> (fail_if_success (cases h; done)) <;> rw [h]) | (refine AOps.splitF rfl rfl rfl asm (fun h => ?_) <;> (fail_if_success (cases h; done)) <;> rw [h]) | (refine AOps.split rfl rfl rfl (fun h => ?_) (fun h => ?_) <;> (fail_if_success (cases h; done)) <;> rw [h]) | refine AOps.drawn (by kernel_rfl) ?_)
      all_goals
        show (_ : CV) = _
        clear hf hp hin h1 h2
        simp_all
    by_cases c : k = 15
    · subst c
      show QCalls _ _ _ _ (.bool (decide (1 ≤ n ∧ n ≤ maxI ∧ 0 ≤ a ∧ a < 12 ∧ args.length = 1) && vHasAll args (tyArg (.mk 15 ts) 0)))
      obtain ⟨u, rfl⟩ := tlen1 (show ts.length = 1 by have : arity 15 = 1 := by decide
                                                      omega)
      have h1 := In_calls n
      rw [nIn_dec] at h1
      have h2 := address_calls a
      by_cases hl : args.length = 1
      · obtain ⟨x, rfl⟩ := len1 hl
        have hu : tBad u = false := tBads_mem hbs (by simp)
        have hus : tySize u ≤ 1048577 := by have := tysSize_mem (l := [u]) (x := u) (by simp); omega
        have h3 := hin x (by simp) u hu hus
        have g1 : [u][0]? = some u := rfl
        have g3 : [x][0]? = some x := rfl
        rw [show vHasAll [x] (tyArg (.mk 15 [u]) 0) = vHas x u from by unfold vHasAll; unfold vHasAll; simp [tyArg, tyArgs]]
        generalize vHas x u = b1 at h3
        obtain ⟨U, us⟩ := u
        obtain ⟨x1, x2, x3, x4, x5, x6, x7⟩ := x
        refine QCalls.of Try.func111 rfl (fun args w => Try.call111 args w) (Nat.le_of_ble_eq_true rfl) [(0, .c (encTy (.mk 15 [.mk U us]))), (1, .c (encVl (.mk 15 n a s [.mk x1 x2 x3 x4 x5 x6 x7] types code)))] rfl fun β hβ => ?_; have hf := Try.func111
        repeat' (first | refine AK.runP Try.hX Try.mixed 300 rfl ?_ | refine AK.condTe rfl asm ?_ | refine AK.condFe rfl asm ?_ | (refine AK.condS rfl (fun h => ?_) (fun h => ?_) <;> first | (cases h; done) | rw [h] | skip) | refine AK.retQ Try.hX hf rfl rfl ?_ | refine AK.region Try.mixed rfl ?_ | refine AOps.done ?_ | refine AOps.runS Try.hX kn rfl ?_ | refine AOps.callq kn rfl rfl rfl rfl (hp) ?_ | refine AOps.callq kn rfl rfl rfl rfl (h1) ?_ | refine AOps.callq kn rfl rfl rfl rfl (h2) ?_ | refine AOps.callq kn rfl rfl rfl rfl (h3) ?_ | refine AOps.index Try.hX rfl rfl rfl rfl rfl rfl rfl rfl rfl rfl (0) rfl (tys_at g1) rfl ?_ | refine AOps.index Try.hX rfl rfl rfl rfl rfl rfl rfl rfl rfl rfl (0) rfl (vls_at g3) rfl ?_ | refine AOps.box kn rfl rfl rfl rfl rfl rfl ?_ | refine AOps.alloc Try.hX kn rfl rfl rfl rfl rfl rfl rfl ?_ | refine AOps.store Try.hX kn rfl rfl rfl rfl rfl rfl rfl rfl rfl rfl rfl ?_ | refine AOps.buildSlice Try.hX kn rfl rfl rfl rfl rfl rfl rfl rfl rfl rfl rfl rfl ?_ | refine AOps.append Try.hX kn rfl rfl rfl rfl rfl rfl rfl rfl rfl rfl rfl rfl rfl rfl rfl rfl rfl rfl rfl rfl rfl ?_ ?_ | refine AOps.toStr Try.hX kn rfl rfl rfl rfl rfl rfl rfl rfl rfl rfl rfl (by first | exact rfl | exact byte1 _) rfl ?_ | refine AOps.buildArr Try.hX kn rfl rfl rfl rfl rfl rfl rfl rfl ?_ | refine AOps.indexArr Try.hX kn rfl rfl rfl rfl rfl rfl rfl rfl rfl rfl rfl rfl ?_ | refine AOps.runP1 Try.hX kn rfl rfl ?_ | (refine AOps.splitT rfl rfl rfl asm (fun h => ?_) <;> (fail_if_success (cases h; done)) <;> rw [h]) | (refine AOps.splitF rfl rfl rfl asm (fun h => ?_) <;> (fail_if_success (cases h; done)) <;> rw [h]) | (refine AOps.split rfl rfl rfl (fun h => ?_) (fun h => ?_) <;> (fail_if_success (cases h; done)) <;> rw [h]) | refine AOps.drawn (by kernel_rfl) ?_)
        all_goals
          show (_ : CV) = _
          clear hf hp hin h1 h2 h3 hpl
          (try simp_all [maxI, encVls_length]) <;> (try omega)
      · have e5 : ((((encVls args).length : Nat) : Int) == 1) = false := by rw [encVls_length]; simp; omega
        refine QCalls.of Try.func111 rfl (fun args w => Try.call111 args w) (Nat.le_of_ble_eq_true rfl) [(0, .c (encTy (.mk 15 [u]))), (1, .c (encVl (.mk 15 n a s args types code)))] rfl fun β hβ => ?_; have hf := Try.func111
        repeat' (first | refine AK.runP Try.hX Try.mixed 300 rfl ?_ | refine AK.condTe rfl asm ?_ | refine AK.condFe rfl asm ?_ | (refine AK.condS rfl (fun h => ?_) (fun h => ?_) <;> first | (cases h; done) | rw [h] | skip) | refine AK.retQ Try.hX hf rfl rfl ?_ | refine AK.region Try.mixed rfl ?_ | refine AOps.done ?_ | refine AOps.runS Try.hX kn rfl ?_ | refine AOps.callq kn rfl rfl rfl rfl (hp) ?_ | refine AOps.callq kn rfl rfl rfl rfl (h1) ?_ | refine AOps.callq kn rfl rfl rfl rfl (h2) ?_ | refine AOps.box kn rfl rfl rfl rfl rfl rfl ?_ | refine AOps.alloc Try.hX kn rfl rfl rfl rfl rfl rfl rfl ?_ | refine AOps.store Try.hX kn rfl rfl rfl rfl rfl rfl rfl rfl rfl rfl rfl ?_ | refine AOps.buildSlice Try.hX kn rfl rfl rfl rfl rfl rfl rfl rfl rfl rfl rfl rfl ?_ | refine AOps.append Try.hX kn rfl rfl rfl rfl rfl rfl rfl rfl rfl rfl rfl rfl rfl rfl rfl rfl rfl rfl rfl rfl rfl ?_ ?_ | refine AOps.toStr Try.hX kn rfl rfl rfl rfl rfl rfl rfl rfl rfl rfl rfl (by first | exact rfl | exact byte1 _) rfl ?_ | refine AOps.buildArr Try.hX kn rfl rfl rfl rfl rfl rfl rfl rfl ?_ | refine AOps.indexArr Try.hX kn rfl rfl rfl rfl rfl rfl rfl rfl rfl rfl rfl rfl ?_ | refine AOps.runP1 Try.hX kn rfl rfl ?_ | (refine AOps.splitT rfl rfl rfl asm (fun h => ?_) <;> (fail_if_success (cases h; done)) <;> rw [h]) | (refine AOps.splitF rfl rfl rfl asm (fun h => ?_) <;> (fail_if_success (cases h; done)) <;> rw [h]) | (refine AOps.split rfl rfl rfl (fun h => ?_) (fun h => ?_) <;> (fail_if_success (cases h; done)) <;> rw [h]) | refine AOps.drawn (by kernel_rfl) ?_)
        all_goals
          show (_ : CV) = _
          clear hf hp hin h1 h2 hpl
          simp_all
    by_cases c : k = 8
    · subst c
      show QCalls _ _ _ _ (.bool (decide (0 ≤ n ∧ n ≤ maxI ∧ 0 ≤ a ∧ a < 12 ∧ args.length = 1) && tGood (types.getD 0 ty0) && vHasAll args (types.getD 0 ty0)))
      obtain ⟨u, rfl⟩ := tlen1 (show types.length = 1 by
        have h : decide (types.length = 1 ∧ code.length = 0 ∧ s = []) = true := hpl
        simp only [decide_eq_true_eq] at h; exact h.1)
      have h1 := In_calls n
      rw [nIn_dec] at h1
      have h2 := address_calls a
      by_cases hl : args.length = 1
      · obtain ⟨x, rfl⟩ := len1 hl
        have hus : tySize u ≤ 1048577 := by have := tysSize_mem (l := [u]) (x := u) (by simp); omega
        have hg := Good_calls u hus
        have g1 : [u][0]? = some u := rfl
        have g3 : [x][0]? = some x := rfl
        rw [show vHasAll [x] ([u].getD 0 ty0) = vHas x u from by unfold vHasAll; unfold vHasAll; simp]
        rw [getD0]
        by_cases hgd : tGood u = true
        · have h3 := hin x (by simp) u (tGood_bad hgd) hus
          rw [hgd] at hg ⊢
          generalize vHas x u = b1 at h3
          obtain ⟨U, us⟩ := u
          obtain ⟨x1, x2, x3, x4, x5, x6, x7⟩ := x
          refine QCalls.of Try.func111 rfl (fun args w => Try.call111 args w) (Nat.le_of_ble_eq_true rfl) [(0, .c (encTy (.mk 8 ts))), (1, .c (encVl (.mk 8 n a s [.mk x1 x2 x3 x4 x5 x6 x7] [.mk U us] code)))] rfl fun β hβ => ?_; have hf := Try.func111
          repeat' (first | refine AK.runP Try.hX Try.mixed 300 rfl ?_ | refine AK.condTe rfl asm ?_ | refine AK.condFe rfl asm ?_ | (refine AK.condS rfl (fun h => ?_) (fun h => ?_) <;> first | (cases h; done) | rw [h] | skip) | refine AK.retQ Try.hX hf rfl rfl ?_ | refine AK.region Try.mixed rfl ?_ | refine AOps.done ?_ | refine AOps.runS Try.hX kn rfl ?_ | refine AOps.callq kn rfl rfl rfl rfl (hp) ?_ | refine AOps.callq kn rfl rfl rfl rfl (h1) ?_ | refine AOps.callq kn rfl rfl rfl rfl (h2) ?_ | refine AOps.callq kn rfl rfl rfl rfl (hg) ?_ | refine AOps.callq kn rfl rfl rfl rfl (h3) ?_ | refine AOps.index Try.hX rfl rfl rfl rfl rfl rfl rfl rfl rfl rfl (0) rfl (tys_at g1) rfl ?_ | refine AOps.index Try.hX rfl rfl rfl rfl rfl rfl rfl rfl rfl rfl (0) rfl (vls_at g3) rfl ?_ | refine AOps.box kn rfl rfl rfl rfl rfl rfl ?_ | refine AOps.alloc Try.hX kn rfl rfl rfl rfl rfl rfl rfl ?_ | refine AOps.store Try.hX kn rfl rfl rfl rfl rfl rfl rfl rfl rfl rfl rfl ?_ | refine AOps.buildSlice Try.hX kn rfl rfl rfl rfl rfl rfl rfl rfl rfl rfl rfl rfl ?_ | refine AOps.append Try.hX kn rfl rfl rfl rfl rfl rfl rfl rfl rfl rfl rfl rfl rfl rfl rfl rfl rfl rfl rfl rfl rfl ?_ ?_ | refine AOps.toStr Try.hX kn rfl rfl rfl rfl rfl rfl rfl rfl rfl rfl rfl (by first | exact rfl | exact byte1 _) rfl ?_ | refine AOps.buildArr Try.hX kn rfl rfl rfl rfl rfl rfl rfl rfl ?_ | refine AOps.indexArr Try.hX kn rfl rfl rfl rfl rfl rfl rfl rfl rfl rfl rfl rfl ?_ | refine AOps.runP1 Try.hX kn rfl rfl ?_ | (refine AOps.splitT rfl rfl rfl asm (fun h => ?_) <;> (fail_if_success (cases h; done)) <;> rw [h]) | (refine AOps.splitF rfl rfl rfl asm (fun h => ?_) <;> (fail_if_success (cases h; done)) <;> rw [h]) | (refine AOps.split rfl rfl rfl (fun h => ?_) (fun h => ?_) <;> (fail_if_success (cases h; done)) <;> rw [h]) | refine AOps.drawn (by kernel_rfl) ?_)
          all_goals
            show (_ : CV) = _
            clear hf hp hin h1 h2 h3 hg hpl
            (try simp_all [maxI, encVls_length]) <;> (try omega)
        · have hgf : tGood u = false := by simpa using hgd
          rw [hgf] at hg ⊢
          obtain ⟨U, us⟩ := u
          refine QCalls.of Try.func111 rfl (fun args w => Try.call111 args w) (Nat.le_of_ble_eq_true rfl) [(0, .c (encTy (.mk 8 ts))), (1, .c (encVl (.mk 8 n a s [x] [.mk U us] code)))] rfl fun β hβ => ?_; have hf := Try.func111
          repeat' (first | refine AK.runP Try.hX Try.mixed 300 rfl ?_ | refine AK.condTe rfl asm ?_ | refine AK.condFe rfl asm ?_ | (refine AK.condS rfl (fun h => ?_) (fun h => ?_) <;> first | (cases h; done) | rw [h] | skip) | refine AK.retQ Try.hX hf rfl rfl ?_ | refine AK.region Try.mixed rfl ?_ | refine AOps.done ?_ | refine AOps.runS Try.hX kn rfl ?_ | refine AOps.callq kn rfl rfl rfl rfl (hp) ?_ | refine AOps.callq kn rfl rfl rfl rfl (h1) ?_ | refine AOps.callq kn rfl rfl rfl rfl (h2) ?_ | refine AOps.callq kn rfl rfl rfl rfl (hg) ?_ | refine AOps.index Try.hX rfl rfl rfl rfl rfl rfl rfl rfl rfl rfl (0) rfl (tys_at g1) rfl ?_ | refine AOps.box kn rfl rfl rfl rfl rfl rfl ?_ | refine AOps.alloc Try.hX kn rfl rfl rfl rfl rfl rfl rfl ?_ | refine AOps.store Try.hX kn rfl rfl rfl rfl rfl rfl rfl rfl rfl rfl rfl ?_ | refine AOps.buildSlice Try.hX kn rfl rfl rfl rfl rfl rfl rfl rfl rfl rfl rfl rfl ?_ | refine AOps.append Try.hX kn rfl rfl rfl rfl rfl rfl rfl rfl rfl rfl rfl rfl rfl rfl rfl rfl rfl rfl rfl rfl rfl ?_ ?_ | refine AOps.toStr Try.hX kn rfl rfl rfl rfl rfl rfl rfl rfl rfl rfl rfl (by first | exact rfl | exact byte1 _) rfl ?_ | refine AOps.buildArr Try.hX kn rfl rfl rfl rfl rfl rfl rfl rfl ?_ | refine AOps.indexArr Try.hX kn rfl rfl rfl rfl rfl rfl rfl rfl rfl rfl rfl rfl ?_ | refine AOps.runP1 Try.hX kn rfl rfl ?_ | (refine AOps.splitT rfl rfl rfl asm (fun h => ?_) <;> (fail_if_success (cases h; done)) <;> rw [h]) | (refine AOps.splitF rfl rfl rfl asm (fun h => ?_) <;> (fail_if_success (cases h; done)) <;> rw [h]) | (refine AOps.split rfl rfl rfl (fun h => ?_) (fun h => ?_) <;> (fail_if_success (cases h; done)) <;> rw [h]) | refine AOps.drawn (by kernel_rfl) ?_)
          all_goals
            show (_ : CV) = _
            clear hf hp hin h1 h2 hg hpl
            simp_all [maxI]
      · have e5 : ((((encVls args).length : Nat) : Int) == 1) = false := by rw [encVls_length]; simp; omega
        refine QCalls.of Try.func111 rfl (fun args w => Try.call111 args w) (Nat.le_of_ble_eq_true rfl) [(0, .c (encTy (.mk 8 ts))), (1, .c (encVl (.mk 8 n a s args [u] code)))] rfl fun β hβ => ?_; have hf := Try.func111
        repeat' (first | refine AK.runP Try.hX Try.mixed 300 rfl ?_ | refine AK.condTe rfl asm ?_ | refine AK.condFe rfl asm ?_ | (refine AK.condS rfl (fun h => ?_) (fun h => ?_) <;> first | (cases h; done) | rw [h] | skip) | refine AK.retQ Try.hX hf rfl rfl ?_ | refine AK.region Try.mixed rfl ?_ | refine AOps.done ?_ | refine AOps.runS Try.hX kn rfl ?_ | refine AOps.callq kn rfl rfl rfl rfl (hp) ?_ | refine AOps.callq kn rfl rfl rfl rfl (h1) ?_ | refine AOps.callq kn rfl rfl rfl rfl (h2) ?_ | refine AOps.box kn rfl rfl rfl rfl rfl rfl ?_ | refine AOps.alloc Try.hX kn rfl rfl rfl rfl rfl rfl rfl ?_ | refine AOps.store Try.hX kn rfl rfl rfl rfl rfl rfl rfl rfl rfl rfl rfl ?_ | refine AOps.buildSlice Try.hX kn rfl rfl rfl rfl rfl rfl rfl rfl rfl rfl rfl rfl ?_ | refine AOps.append Try.hX kn rfl rfl rfl rfl rfl rfl rfl rfl rfl rfl rfl rfl rfl rfl rfl rfl rfl rfl rfl rfl rfl ?_ ?_ | refine AOps.toStr Try.hX kn rfl rfl rfl rfl rfl rfl rfl rfl rfl rfl rfl (by first | exact rfl | exact byte1 _) rfl ?_ | refine AOps.buildArr Try.hX kn rfl rfl rfl rfl rfl rfl rfl rfl ?_ | refine AOps.indexArr Try.hX kn rfl rfl rfl rfl rfl rfl rfl rfl rfl rfl rfl rfl ?_ | refine AOps.runP1 Try.hX kn rfl rfl ?_ | (refine AOps.splitT rfl rfl rfl asm (fun h => ?_) <;> (fail_if_success (cases h; done)) <;> rw [h]) | (refine AOps.splitF rfl rfl rfl asm (fun h => ?_) <;> (fail_if_success (cases h; done)) <;> rw [h]) | (refine AOps.split rfl rfl rfl (fun h => ?_) (fun h => ?_) <;> (fail_if_success (cases h; done)) <;> rw [h]) | refine AOps.drawn (by kernel_rfl) ?_)
        all_goals
          show (_ : CV) = _
          clear hf hp hin h1 h2 hpl
          simp_all
    exfalso
    have := arity_in har
    omega
termination_by v => SizeOf.sizeOf v
decreasing_by
  have := List.sizeOf_lt_of_mem hx
  simp at this ⊢; omega
end Go.Proofs
