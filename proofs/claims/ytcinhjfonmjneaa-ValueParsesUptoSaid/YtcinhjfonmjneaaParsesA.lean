/- What Node of package kind and TypeNode, goodType, GoodType, typeOf and ParseType of touchstoneref answer. What SameValue, bare, Order and has of touchstoneref answer. What has, Has and Compare of touchstoneref answer; the law ValueHas. What ValueNode, Told and Pack of touchstoneref answer; the law ValueTells. What ParseValue and Unpack of touchstoneref answer; the law ValueParses. -/
import Derived.Test.YtcinhjfonmjneaaNum1
import Derived.Test.YtcinhjfonmjneaaVal8
import Derived.Test.YtcinhjfonmjneaaTree7
import Derived.Test.YtcinhjfonmjneaaVal11
-- WIDE
-- OLDASM
set_option linter.unusedVariables false
set_option linter.unusedSimpArgs false
namespace Go.Proofs
open Go.Abs
theorem rGood_no (T : Int) (args : List Ty) (d left : Int) (h : d = 0 ∨ left = 0 ∨ arity T ≠ args.length) : rGood (.mk T args) d left = (false, 0) := by simp only [rGood, if_pos h]
theorem rGood_at (T : Int) (args : List Ty) (d left : Int) (h : ¬ (d = 0 ∨ left = 0 ∨ arity T ≠ args.length)) :
    rGood (.mk T args) d left = if (rGoods args (d - 1) (left - 1)).1 then (if T = 13 ∨ T = 15 then headComp args else true, (rGoods args (d - 1) (left - 1)).2) else (false, 0) := by
  simp only [rGood, if_neg h]
  rcases rGoods args (d - 1) (left - 1) with ⟨b, m⟩
  cases b <;> rfl
theorem rGoods_nil (d m : Int) : rGoods [] d m = (true, m) := rfl
theorem rGoods_cons (t : Ty) (l : List Ty) (d n : Int) : rGoods (t :: l) d n = if (rGood t d n).1 then rGoods l d (rGood t d n).2 else (false, 0) := by
  simp only [rGoods]
  rcases rGood t d n with ⟨b, m⟩
  cases b <;> rfl
mutual
theorem rGood_le : ∀ (t : Ty) (d n : Int), 0 ≤ n → 0 ≤ (rGood t d n).2 ∧ (rGood t d n).2 ≤ n
  | .mk T args, d, n, hn => by
    by_cases h : d = 0 ∨ n = 0 ∨ arity T ≠ args.length
    · rw [rGood_no _ _ _ _ h]; simp only; omega
    · rw [rGood_at _ _ _ _ h]
      have ih := rGoods_le args (d - 1) (n - 1) (by omega)
      split
      · simp only; omega
      · simp only; omega
theorem rGoods_le : ∀ (l : List Ty) (d n : Int), 0 ≤ n → 0 ≤ (rGoods l d n).2 ∧ (rGoods l d n).2 ≤ n
  | [], d, n, hn => by rw [rGoods_nil]; simp only; omega
  | t :: l, d, n, hn => by
    have ih := rGood_le t d n hn
    rw [rGoods_cons]
    split
    · have ih2 := rGoods_le l d _ ih.1; omega
    · simp only; omega
end
attribute [local irreducible] AK AOps QCalls ECalls tyNd tyNds tGood rGood rGoods headComp tComp rType rTypes arity

set_option maxHeartbeats 0 in
theorem goodType_calls : ∀ (t : Ty) (d left : Int), tySize t ≤ 1048577 → d ≤ 1000 → -1099511627776 + tySize t ≤ d → 0 ≤ left → left ≤ 300 →
    QCalls Try.prog Try.X 104 [encTy t, .int .i64 d, .int .i64 left] (.tup [.bool (rGood t d left).1, .int .i64 (rGood t d left).2])
  | .mk T args => by
    intro d left ht hd0 hd hn0 hn
    simp only [tySize] at ht hd
    have hl1 := tysSize_len args
    have hin : ∀ x ∈ args, ∀ m : Int, 0 ≤ m → m ≤ 300 → QCalls Try.prog Try.X 104 [encTy x, .int .i64 (IntKind.i64.wrap (d - 1)), .int .i64 m] (.tup [.bool (rGood x (d - 1) m).1, .int .i64 (rGood x (d - 1) m).2]) := by
      intro x hx m h0 h1
      have := tysSize_mem hx
      rw [w64 (by omega) (by omega)]
      exact goodType_calls x (d - 1) m (by omega) (by omega) (by omega) h0 h1
    by_cases c1 : d = 0
    · have e1 : (d == 0) = true := by simp [c1]
      rw [rGood_no T args d left (.inl c1)]
      refine QCalls.of Try.func104 rfl (fun args w => Try.call104 args w) (Nat.le_of_ble_eq_true rfl) [(0, .c (encTy (.mk T args))), (1, .c (.int .i64 d)), (2, .c (.int .i64 left))] rfl fun β hβ => ?_; have hf := Try.func104
      repeat' (first | refine sto ?_ | (refine AK.condS rfl (fun h => ?_) (fun h => ?_) <;> first | (cases h; done) | rw [h] | skip) | refine uQ hf rfl rfl ?_ | refine uC rfl (made_calls T) ?_ | ((first | refine AOps.splitT rfl rfl rfl asmo (fun h => ?_) | refine AOps.splitF rfl rfl rfl asmo (fun h => ?_) | refine AOps.split rfl rfl rfl (fun h => ?_) (fun h => ?_)) <;> (fail_if_success (cases h; done)) <;> rw [h]))
      all_goals rfl
    have e1 : (d == 0) = false := by simp [c1]
    by_cases c2 : left = 0
    · have e2 : (left == 0) = true := by simp [c2]
      rw [rGood_no T args d left (.inr (.inl c2))]
      refine QCalls.of Try.func104 rfl (fun args w => Try.call104 args w) (Nat.le_of_ble_eq_true rfl) [(0, .c (encTy (.mk T args))), (1, .c (.int .i64 d)), (2, .c (.int .i64 left))] rfl fun β hβ => ?_; have hf := Try.func104
      repeat' (first | refine sto ?_ | (refine AK.condS rfl (fun h => ?_) (fun h => ?_) <;> first | (cases h; done) | rw [h] | skip) | refine uQ hf rfl rfl ?_ | refine uC rfl (made_calls T) ?_ | ((first | refine AOps.splitT rfl rfl rfl asmo (fun h => ?_) | refine AOps.splitF rfl rfl rfl asmo (fun h => ?_) | refine AOps.split rfl rfl rfl (fun h => ?_) (fun h => ?_)) <;> (fail_if_success (cases h; done)) <;> rw [h]))
      all_goals rfl
    have e2 : (left == 0) = false := by simp [c2]
    by_cases c3 : arity T ≠ args.length
    · have e3 : (arity T != (((encTys args).length : Nat) : Int)) = true := by rw [encTys_length]; simpa using c3
      rw [rGood_no T args d left (.inr (.inr c3))]
      refine QCalls.of Try.func104 rfl (fun args w => Try.call104 args w) (Nat.le_of_ble_eq_true rfl) [(0, .c (encTy (.mk T args))), (1, .c (.int .i64 d)), (2, .c (.int .i64 left))] rfl fun β hβ => ?_; have hf := Try.func104
      repeat' (first | refine sto ?_ | (refine AK.condS rfl (fun h => ?_) (fun h => ?_) <;> first | (cases h; done) | rw [h] | skip) | refine uQ hf rfl rfl ?_ | refine uC rfl (made_calls T) ?_ | ((first | refine AOps.splitT rfl rfl rfl asmo (fun h => ?_) | refine AOps.splitF rfl rfl rfl asmo (fun h => ?_) | refine AOps.split rfl rfl rfl (fun h => ?_) (fun h => ?_)) <;> (fail_if_success (cases h; done)) <;> rw [h]))
      all_goals rfl
    have e3 : (arity T != (((encTys args).length : Nat) : Int)) = false := by rw [encTys_length]; simpa using c3
    have hK := rGood_at T args d left (by simp only [not_or]; exact ⟨c1, c2, c3⟩)
    rw [hK]
    refine QCalls.of Try.func104 rfl (fun args w => Try.call104 args w) (Nat.le_of_ble_eq_true rfl) [(0, .c (encTy (.mk T args))), (1, .c (.int .i64 d)), (2, .c (.int .i64 left))] rfl fun β hβ => ?_; have hf := Try.func104
    repeat' (first | refine sto ?_ | (refine AK.condS rfl (fun h => ?_) (fun h => ?_) <;> first | (cases h; done) | rw [h] | skip) | refine uQ hf rfl rfl ?_ | refine uC rfl (made_calls T) ?_ | ((first | refine AOps.splitT rfl rfl rfl asmo (fun h => ?_) | refine AOps.splitF rfl rfl rfl asmo (fun h => ?_) | refine AOps.split rfl rfl rfl (fun h => ?_) (fun h => ?_)) <;> (fail_if_success (cases h; done)) <;> rw [h]))
    refine AK.loopE (α := Nat × Int) (fun z => z.1 ≤ args.length ∧ rGoods args (d - 1) (left - 1) = rGoods (args.drop z.1) (d - 1) z.2 ∧ 0 ≤ z.2 ∧ z.2 ≤ 300) (fun z => args.length - z.1)
      (fun z => [(32, .c (.int .i64 z.1)), (31, .c (.int .i64 (encTys args).length)), (30, .c (.sl 2 (encTys args))), (1, .c (.int .i64 d)), (2, .c (.int .i64 z.2)), (3, .ptr 3 0)])
      (fun z => [(3, [.c (.int .i64 T), .c (.sl 2 (encTys args))])]) (fun _ => []) [3] (0, left - 1)
      ⟨by omega, rfl, by show 0 ≤ left - 1; omega, by show left - 1 ≤ 300; omega⟩ ⟨.inl rfl, .inl rfl, .inl rfl, .inl rfl, .inl (by rw [w64 (by omega) (by omega)]; rfl), .inl rfl, trivial⟩ ⟨rfl, trivial⟩ trivial rfl rfl rfl ?_
    rintro ⟨i, m⟩ ⟨hi, hinv, hm0, hm1⟩ ih
    simp only at hi hinv hm0 hm1
    rcases get_or args i hi with ⟨x, hx, hmem⟩ | he
    · have hc := tys_lt hx
      have hq := hin x hmem m hm0 hm1
      have hle := rGood_le x (d - 1) m hm0
      rw [drop_at hx, rGoods_cons] at hinv
      obtain ⟨U, us⟩ := x
      rcases hr : rGood (.mk U us) (d - 1) m with ⟨b, m'⟩
      rw [hr] at hq hle hinv
      cases b with
      | false =>
        repeat' (first | refine sto ?_ | (refine AK.condS rfl (fun h => ?_) (fun h => ?_) <;> first | (cases h; done) | rw [h] | skip) | refine uQ hf rfl rfl ?_ | refine uI rfl (i) rfl (tys_at hx) rfl ?_ | refine uC rfl hq ?_ | ((first | refine AOps.splitT rfl rfl rfl asmo (fun h => ?_) | refine AOps.splitF rfl rfl rfl asmo (fun h => ?_) | refine AOps.split rfl rfl rfl (fun h => ?_) (fun h => ?_)) <;> (fail_if_success (cases h; done)) <;> rw [h]))
        rw [hinv]; rfl
      | true =>
        repeat' (first | refine sto ?_ | (refine AK.condS rfl (fun h => ?_) (fun h => ?_) <;> first | (cases h; done) | rw [h] | skip) | refine uQ hf rfl rfl ?_ | refine uI rfl (i) rfl (tys_at hx) rfl ?_ | refine uC rfl hq ?_ | ((first | refine AOps.splitT rfl rfl rfl asmo (fun h => ?_) | refine AOps.splitF rfl rfl rfl asmo (fun h => ?_) | refine AOps.split rfl rfl rfl (fun h => ?_) (fun h => ?_)) <;> (fail_if_success (cases h; done)) <;> rw [h]))
        refine AK.again (ih (i + 1, m') ⟨lt_of_get hx, hinv, hle.1, by have := hle.2; show m' ≤ 300; simp only at this; omega⟩ (by have := lt_of_get hx; show args.length - (i + 1) < args.length - i; omega))
          ⟨.inl (succ64 (by have := lt_of_get hx; omega)), .inl rfl, .inl rfl, .inl rfl, .inl rfl, .inl rfl, trivial⟩ ⟨rfl, trivial⟩ trivial rfl rfl rfl
    · have hc := tys_end he
      have hG : rGoods args (d - 1) (left - 1) = (true, m) := by rw [hinv, he, List.drop_length, rGoods_nil]
      rw [hG]
      clear ih hin hK
      by_cases hmt : T = 13 ∨ T = 15
      · obtain ⟨x0, hx0⟩ : ∃ x, args[0]? = some x := by
          have h1 : arity T ≥ 1 := by rcases hmt with rfl | rfl <;> decide +kernel
          have h2 : 0 < args.length := by simp only [ne_eq, Decidable.not_not] at c3; omega
          exact ⟨args[0], by simp [h2]⟩
        have hcq := rComparable_calls x0 (by have := tysSize_mem (List.mem_of_getElem? hx0); omega)
        simp only [if_pos hmt, headComp_calls hx0, if_true]
        obtain ⟨U, us⟩ := x0
        rcases hmt with rfl | rfl
        all_goals
          repeat' (first | refine sto ?_ | (refine AK.condS rfl (fun h => ?_) (fun h => ?_) <;> first | (cases h; done) | rw [h] | skip) | refine uQ hf rfl rfl ?_ | refine uI rfl (0) rfl (tys_at hx0) rfl ?_ | refine uC rfl hcq ?_ | ((first | refine AOps.splitT rfl rfl rfl asmo (fun h => ?_) | refine AOps.splitF rfl rfl rfl asmo (fun h => ?_) | refine AOps.split rfl rfl rfl (fun h => ?_) (fun h => ?_)) <;> (fail_if_success (cases h; done)) <;> rw [h]))
          all_goals rfl
      · simp only [if_neg hmt, if_true]
        have g1 : (T != 13) = true := by simp only [not_or] at hmt; simpa using hmt.1
        have g2 : (T != 15) = true := by simp only [not_or] at hmt; simpa using hmt.2
        repeat' (first | refine sto ?_ | (refine AK.condS rfl (fun h => ?_) (fun h => ?_) <;> first | (cases h; done) | rw [h] | skip) | refine uQ hf rfl rfl ?_ | ((first | refine AOps.splitT rfl rfl rfl asmo (fun h => ?_) | refine AOps.splitF rfl rfl rfl asmo (fun h => ?_) | refine AOps.split rfl rfl rfl (fun h => ?_) (fun h => ?_)) <;> (fail_if_success (cases h; done)) <;> rw [h]))
        all_goals first | rfl | (show (_ : CV) = _; simp_all; done)
termination_by t => SizeOf.sizeOf t
decreasing_by
  have := List.sizeOf_lt_of_mem hx
  simp at this ⊢; omega

theorem GoodType_calls (t : Ty) (ht : tySize t ≤ 1048577) : QCalls Try.prog Try.X 56 [encTy t] (.bool (tGood t)) := by
  have hq := goodType_calls t 24 300 ht (by omega) (by omega) (by omega) (by omega)
  rw [← rGood_top]
  obtain ⟨T, args⟩ := t
  refine QCalls.of Try.func56 rfl (fun args w => Try.call56 args w) (Nat.le_of_ble_eq_true rfl) [(0, .c (encTy (.mk T args)))] rfl fun β hβ => ?_; have hf := Try.func56
  repeat' (first | refine sto ?_ | refine uQ hf rfl rfl ?_ | refine uC rfl hq ?_)
  rfl

end Go.Proofs

set_option linter.unusedVariables false
set_option linter.unusedSimpArgs false
set_option maxRecDepth 100000
namespace Go.Proofs
open Go.Abs
theorem hasZ_get : ∀ {l : List Vl} {ts : List Ty} {i : Nat} {x : Vl}, hasZ l ts → l[i]? = some x → ∃ t, ts[i]? = some t ∧ vHas x t = true ∧ tComp t = true ∧ tBad t = false
  | [], _, _, _, _, h => by simp at h
  | x :: l, [], _, _, h, _ => h.elim
  | x :: l, t :: ts, 0, y, h, e => by
    simp at e; subst e
    exact ⟨t, rfl, h.1, h.2.1, h.2.2.1⟩
  | x :: l, t :: ts, i + 1, y, h, e => by
    simp only [List.getElem?_cons_succ] at e ⊢
    exact hasZ_get h.2.2.2 e
theorem rOrds_cons (x y : Vl) (l r : List Vl) : rOrds (x :: l) (y :: r) = if rOrd x y = 0 then rOrds l r else rOrd x y := rfl
theorem rOrds_nil (r : List Vl) : rOrds [] r = 0 := by cases r <;> rfl
/-- What two values are ordered by first. -/
def ordN (k n : Int) (args : List Vl) : Int := if k = 9 then (args.length : Int) else n
theorem rOrd_mk (k n a : Int) (s : List UInt8) (args : List Vl) (types : List Ty) (code : List Nd) (k' n' a' : Int) (s' : List UInt8) (args' : List Vl) (types' : List Ty) (code' : List Nd) :
    rOrd (.mk k n a s args types code) (.mk k' n' a' s' args' types' code') = if ordN k n args < ordN k n' args' ∨ Op.bytesLess s s' = true then -1 else if ordN k n args > ordN k n' args' ∨ Op.bytesLess s' s = true then 1 else rOrds args args' := rfl
/-- Two values of a type that can be compared, and even so far, are of as many parts, each one of a type. -/
theorem ord_args {k n a : Int} {s : List UInt8} {args : List Vl} {types : List Ty} {code : List Nd} {k' n' a' : Int} {s' : List UInt8} {args' : List Vl} {types' : List Ty} {code' : List Nd} {t : Ty}
    (hc : tComp t = true) (hb : tBad t = false) (h1 : vHas (.mk k n a s args types code) t = true) (h2 : vHas (.mk k' n' a' s' args' types' code') t = true) (he : ordN k n args = ordN k n' args') :
    ∃ ts, hasZ args ts ∧ hasZ args' ts ∧ args.length = args'.length := by
  obtain ⟨e1, rfl, rfl, rfl, f1⟩ := vHas_comp h1 hc hb
  obtain ⟨e2, rfl, rfl, rfl, f2⟩ := vHas_comp h2 hc hb
  obtain rfl : k' = k := by rw [e1, e2]
  unfold ordN at he
  rcases f1 with ⟨g0, g1, g2⟩ | ⟨g0, g1, g2⟩ | ⟨g0, g1, g2, g3, g4⟩ | ⟨g0, g1, g2, g3, g4⟩ | ⟨g0, g2, g3, g4⟩
  · rcases f2 with ⟨m0, m1, m2⟩ | ⟨m0, _⟩ | ⟨m0, _⟩ | ⟨m0, _⟩ | ⟨m0, _⟩ <;> first | omega | skip
    subst g2 m2; exact ⟨[], trivial, trivial, rfl⟩
  · rcases f2 with ⟨m0, _⟩ | ⟨m0, m1, m2⟩ | ⟨m0, _⟩ | ⟨m0, _⟩ | ⟨m0, _⟩ <;> first | omega | skip
    subst g2 m2; exact ⟨[], trivial, trivial, rfl⟩
  · rcases f2 with ⟨m0, _⟩ | ⟨m0, _⟩ | ⟨m0, m1, m2, m3, m4⟩ | ⟨m0, _⟩ | ⟨m0, _⟩ <;> first | omega | skip
    rw [if_pos g0, if_pos g0] at he
    exact ⟨_, g4, m4, by omega⟩
  · rcases f2 with ⟨m0, _⟩ | ⟨m0, _⟩ | ⟨m0, _⟩ | ⟨m0, m1, m2, m3, m4⟩ | ⟨m0, _⟩ <;> first | omega | skip
    exact ⟨_, g4, m4, by omega⟩
  · rcases f2 with ⟨m0, _⟩ | ⟨m0, _⟩ | ⟨m0, _⟩ | ⟨m0, _⟩ | ⟨m0, m2, m3, m4⟩ <;> first | omega | skip
    rw [if_neg (by omega), if_neg (by omega)] at he
    subst he
    exact ⟨_, g4, m4, by omega⟩
theorem vsSame_cons (x y : Vl) (l r : List Vl) : vsSame (x :: l) (y :: r) = (vSame x y && vsSame l r) := rfl
theorem bareB_mk (k n a : Int) (s : List UInt8) (l : List Vl) (ts : List Ty) (code : List Nd) (bn ba bs : Bool) (args types : Int) (bc : Bool) : bareB (.mk k n a s l ts code) bn ba bs args types bc = ((bn || n == 0) && ((ba || a == 0) && ((bs || s.isEmpty) && (decide ((l.length : Int) = args) && (decide ((ts.length : Int) = types) && (bc || decide (code.length = 0))))))) := rfl
theorem strGt (s s' : List UInt8) : (!(Op.bytesLess s s' || s == s')) = Op.bytesLess s' s := by
  cases h1 : Op.bytesLess s' s with
  | true =>
    rw [less_asymm s' s h1]
    have : s ≠ s' := by rintro rfl; rw [less_irrefl] at h1; cases h1
    simp [this]
  | false =>
    cases h2 : Op.bytesLess s s' with
    | true => rfl
    | false => simp [less_total s s' h2 h1]
attribute [local irreducible] AK AOps QCalls ECalls vCmp vHas vSame vsSame tGood tComp tGoodN vSize tySame tysSame ndSame ndsSame tHas rOrd rOrds

set_option maxHeartbeats 0 in
theorem SameTypes_calls (l r : List Ty) (hl : tysSize l ≤ 1099511627775) : QCalls Try.prog Try.X 118 [.sl 2 (encTys l), .sl 2 (encTys r)] (.bool (tysSame l r)) := by
  have h1 := SameType_calls (.mk 0 l) (.mk 0 r) (by simp only [tySize]; omega)
  rw [show tySame (.mk 0 l) (.mk 0 r) = tysSame l r from by unfold tySame; simp] at h1
  refine QCalls.of Try.func118 rfl (fun args w => Try.call118 args w) (Nat.le_of_ble_eq_true rfl) [(0, .c (.sl 2 (encTys l))), (1, .c (.sl 2 (encTys r)))] rfl fun β hβ => ?_; have hf := Try.func118
  exact dq

set_option maxHeartbeats 0 in
theorem rSameValue_calls : ∀ (v w : Vl), vlSize v ≤ 1099511627775 → QCalls Try.prog Try.X 75 [encVl v, encVl w] (.bool (vSame v w))
  | .mk k n a s args types code, .mk k' n' a' s' args' types' code', hv => by
    simp only [vlSize] at hv
    have hl1 := vlsSize_len args
    have hin : ∀ x ∈ args, ∀ y, QCalls Try.prog Try.X 75 [encVl x, encVl y] (.bool (vSame x y)) := fun x hx y => rSameValue_calls x y (by have := vlsSize_mem hx; omega)
    have h1 := SameTypes_calls types types' (by omega)
    have h2 := SameNode_calls (.mk 0 0 0 [] code) (.mk 0 0 0 [] code') (by simp only [ndSize, List.length_nil]; omega)
    rw [show ndSame (.mk 0 0 0 [] code) (.mk 0 0 0 [] code') = ndsSame code code' from by unfold ndSame; simp] at h2
    have e0 : vSame (.mk k n a s args types code) (.mk k' n' a' s' args' types' code') = (k == k' && n == n' && a == a' && s == s' && vsSame args args' && tysSame types types' && ndsSame code code') := by unfold vSame; rfl
    by_cases hc : (k = k' ∧ n = n' ∧ a = a' ∧ s = s') ∧ args.length = args'.length ∧ tysSame types types' = true ∧ ndsSame code code' = true
    · obtain ⟨⟨rfl, rfl, rfl, rfl⟩, hlen, c1, c2⟩ := hc
      rw [c1] at h1; rw [c2] at h2
      have hne : ((((encVls args).length : Nat) : Int) != (((encVls args').length : Nat) : Int)) = false := by rw [encVls_length, encVls_length, hlen]; simp
      rw [show vSame (.mk k n a s args types code) (.mk k n a s args' types' code') = vsSame args args' from by rw [e0, c1, c2]; simp]
      clear e0 c1 c2
      have n1 : (k != k) = false := by simp
      have n2 : (n != n) = false := by simp
      have n3 : (a != a) = false := by simp
      have n4 : (!(s == s)) = false := by simp
      refine QCalls.of Try.func75 rfl (fun args w => Try.call75 args w) (Nat.le_of_ble_eq_true rfl) [(0, .c (encVl (.mk k n a s args types code))), (1, .c (encVl (.mk k n a s args' types' code')))] rfl fun β hβ => ?_; have hf := Try.func75
      repeat' (first | refine st ?_ | (refine AK.condS rfl (fun h => ?_) (fun h => ?_) <;> first | (cases h; done) | rw [h] | skip) | refine uQ hf rfl rfl ?_ | refine uC rfl h1 ?_ | refine uC rfl h2 ?_ | ((first | refine AOps.splitT rfl rfl rfl asm (fun h => ?_) | refine AOps.splitF rfl rfl rfl asm (fun h => ?_) | refine AOps.split rfl rfl rfl (fun h => ?_) (fun h => ?_)) <;> (fail_if_success (cases h; done)) <;> rw [h]))
      refine AK.loopE (α := Nat) (fun i => i ≤ args.length ∧ vsSame args args' = vsSame (args.drop i) (args'.drop i)) (fun i => args.length - i)
        (fun i => [(62, .c (.int .i64 i)), (61, .c (.int .i64 (encVls args).length)), (2, .ptr 2 0), (3, .ptr 3 0)])
        (fun _ => [(2, [.c (.int .i64 k), .c (.int .i64 n), .c (.int .i64 a), .c (.str s), .c (.sl 7 (encVls args)), .c (.sl 2 (encTys types)), .c (.sl 5 (encNds code))]), (3, [.c (.int .i64 k), .c (.int .i64 n), .c (.int .i64 a), .c (.str s), .c (.sl 7 (encVls args')), .c (.sl 2 (encTys types')), .c (.sl 5 (encNds code'))])]) (fun _ => []) [2, 3] 0
        ⟨by omega, rfl⟩ ⟨.inl rfl, .inl rfl, .inl rfl, .inl rfl, trivial⟩ ⟨rfl, rfl, trivial⟩ trivial rfl rfl rfl ?_
      rintro i ⟨hi, hinv⟩ ih
      rcases get_or args i hi with ⟨x, hx, hm⟩ | he
      · have hcc := vls_lt hx
        obtain ⟨y, hy⟩ : ∃ y, args'[i]? = some y := ⟨args'[i]'(by have := lt_of_get hx; omega), by simp⟩
        have hq := hin x hm y
        rw [drop_at hx, drop_at hy] at hinv
        have hinv2 : vsSame args args' = (vSame x y && vsSame (args.drop (i + 1)) (args'.drop (i + 1))) := by rw [hinv, vsSame_cons]
        clear hinv
        generalize vSame x y = b at hq hinv2
        obtain ⟨x1, x2, x3, x4, x5, x6, x7⟩ := x
        obtain ⟨y1, y2, y3, y4, y5, y6, y7⟩ := y
        repeat' (first | refine st ?_ | (refine AK.condS rfl (fun h => ?_) (fun h => ?_) <;> first | (cases h; done) | rw [h] | skip) | refine uQ hf rfl rfl ?_ | refine uI rfl (i) rfl (vls_at hx) rfl ?_ | refine uI rfl (i) rfl (vls_at hy) rfl ?_ | refine uC rfl hq ?_ | ((first | refine AOps.splitT rfl rfl rfl asm (fun h => ?_) | refine AOps.splitF rfl rfl rfl asm (fun h => ?_) | refine AOps.split rfl rfl rfl (fun h => ?_) (fun h => ?_)) <;> (fail_if_success (cases h; done)) <;> rw [h]))
        · rw [hinv2]; simp_all
        · refine AK.again (ih (i + 1) ⟨lt_of_get hx, ?_⟩ (by have := lt_of_get hx; omega)) ⟨.inl (succ64 (by have := lt_of_get hx; omega)), .inl rfl, .inl rfl, .inl rfl, trivial⟩ ⟨rfl, rfl, trivial⟩ trivial rfl rfl rfl
          simp_all
      · have hcc := vls_end he
        have h0 : vsSame args args' = true := by
          rw [hinv, he, List.drop_length, hlen, List.drop_length]; unfold vsSame; rfl
        rw [h0]
        clear ih hinv h0
        exact dq
    · have hF : vSame (.mk k n a s args types code) (.mk k' n' a' s' args' types' code') = false := by
        rw [Bool.eq_false_iff]
        intro hh
        rw [e0] at hh
        simp only [Bool.and_eq_true, beq_iff_eq] at hh
        apply hc
        refine ⟨⟨hh.1.1.1.1.1.1, hh.1.1.1.1.1.2, hh.1.1.1.1.2, hh.1.1.1.2⟩, ?_, hh.1.2, hh.2⟩
        rcases Nat.decEq args.length args'.length with h | h
        · rw [vsSame_len _ _ h] at hh; simp at hh
        · exact h
      rw [hF]
      clear hF e0
      refine QCalls.of Try.func75 rfl (fun args w => Try.call75 args w) (Nat.le_of_ble_eq_true rfl) [(0, .c (encVl (.mk k n a s args types code))), (1, .c (encVl (.mk k' n' a' s' args' types' code')))] rfl fun β hβ => ?_; have hf := Try.func75
      repeat' (first | refine st ?_ | (refine AK.condS rfl (fun h => ?_) (fun h => ?_) <;> first | (cases h; done) | rw [h] | skip) | refine uQ hf rfl rfl ?_ | refine uC rfl h1 ?_ | refine uC rfl h2 ?_ | ((first | refine AOps.splitT rfl rfl rfl asm (fun h => ?_) | refine AOps.splitF rfl rfl rfl asm (fun h => ?_) | refine AOps.split rfl rfl rfl (fun h => ?_) (fun h => ?_)) <;> (fail_if_success (cases h; done)) <;> rw [h]))
      all_goals first
        | (show (_ : CV) = _; rfl)
        | (exfalso; clear hin hf h1 h2; apply hc; clear hc; simp_all [encVls_length] <;> omega)
termination_by t => SizeOf.sizeOf t
decreasing_by
  have := List.sizeOf_lt_of_mem hx
  simp at this ⊢; omega

theorem isAddress_calls (n : Int) : QCalls Try.prog Try.X 143 [.int .i64 n] (.bool (decide (0 ≤ n ∧ n < 12))) := by
  refine QCalls.of Try.func143 rfl (fun args w => Try.call143 args w) (Nat.le_of_ble_eq_true rfl) [(0, .c (.int .i64 n))] rfl fun β hβ => ?_; have hf := Try.func143
  repeat' (first | refine st ?_ | refine uQ hf rfl rfl ?_ | ((first | refine AOps.splitT rfl rfl rfl asm (fun h => ?_) | refine AOps.splitF rfl rfl rfl asm (fun h => ?_) | refine AOps.split rfl rfl rfl (fun h => ?_) (fun h => ?_)) <;> (fail_if_success (cases h; done)) <;> rw [h]))
  all_goals
    show (_ : CV) = _
    clear hf
    simp_all <;> omega
theorem natural_calls (n : Int) : QCalls Try.prog Try.X 142 [.int .i64 n] (.bool (decide (0 ≤ n ∧ n ≤ maxI))) := by
  refine QCalls.of Try.func142 rfl (fun args w => Try.call142 args w) (Nat.le_of_ble_eq_true rfl) [(0, .c (.int .i64 n))] rfl fun β hβ => ?_; have hf := Try.func142
  repeat' (first | refine st ?_ | refine uQ hf rfl rfl ?_ | ((first | refine AOps.splitT rfl rfl rfl asm (fun h => ?_) | refine AOps.splitF rfl rfl rfl asm (fun h => ?_) | refine AOps.split rfl rfl rfl (fun h => ?_) (fun h => ?_)) <;> (fail_if_success (cases h; done)) <;> rw [h]))
  all_goals
    show (_ : CV) = _
    clear hf
    simp_all [maxI] <;> omega

set_option maxHeartbeats 0 in
theorem bare_calls (v : Vl) (bn ba bs : Bool) (na nt : Int) (bc : Bool) : QCalls Try.prog Try.X 141 [encVl v, .bool bn, .bool ba, .bool bs, .int .i64 na, .int .i64 nt, .bool bc] (.bool (bareB v bn ba bs na nt bc)) := by
  obtain ⟨k, n, a, s, args, types, code⟩ := v
  cases bn <;> cases ba <;> cases bs <;> cases bc
  all_goals
    rw [bareB_mk]
    rw [← encVls_length, ← encTys_length, ← encNds_length code]
    simp only [Bool.false_or, Bool.true_or, Bool.true_and]
  · refine QCalls.of Try.func141 rfl (fun args w => Try.call141 args w) (Nat.le_of_ble_eq_true rfl) [(0, .c (encVl (.mk k n a s args types code))), (1, .c (.bool false)), (2, .c (.bool false)), (3, .c (.bool false)), (4, .c (.int .i64 na)), (5, .c (.int .i64 nt)), (6, .c (.bool false))] rfl fun β hβ => ?_; have hf := Try.func141
    repeat' (first | refine st ?_ | refine uQ hf rfl rfl ?_ | ((first | refine AOps.splitT rfl rfl rfl asm (fun h => ?_) | refine AOps.splitF rfl rfl rfl asm (fun h => ?_) | refine AOps.split rfl rfl rfl (fun h => ?_) (fun h => ?_)) <;> (fail_if_success (cases h; done)) <;> rw [h]))
    all_goals
      show (_ : CV) = _
      clear hf
      refine congrArg CV.bool ?_
      (try generalize (encVls args).length = L1 at *)
      (try generalize (encTys types).length = L2 at *)
      (try generalize (encNds code).length = L3 at *)
      rw [Bool.eq_iff_iff]
      (try simp_all) <;> (try omega)
  · refine QCalls.of Try.func141 rfl (fun args w => Try.call141 args w) (Nat.le_of_ble_eq_true rfl) [(0, .c (encVl (.mk k n a s args types code))), (1, .c (.bool false)), (2, .c (.bool false)), (3, .c (.bool false)), (4, .c (.int .i64 na)), (5, .c (.int .i64 nt)), (6, .c (.bool true))] rfl fun β hβ => ?_; have hf := Try.func141
    repeat' (first | refine st ?_ | refine uQ hf rfl rfl ?_ | ((first | refine AOps.splitT rfl rfl rfl asm (fun h => ?_) | refine AOps.splitF rfl rfl rfl asm (fun h => ?_) | refine AOps.split rfl rfl rfl (fun h => ?_) (fun h => ?_)) <;> (fail_if_success (cases h; done)) <;> rw [h]))
    all_goals
      show (_ : CV) = _
      clear hf
      refine congrArg CV.bool ?_
      (try generalize (encVls args).length = L1 at *)
      (try generalize (encTys types).length = L2 at *)
      (try generalize (encNds code).length = L3 at *)
      rw [Bool.eq_iff_iff]
      (try simp_all) <;> (try omega)
  · refine QCalls.of Try.func141 rfl (fun args w => Try.call141 args w) (Nat.le_of_ble_eq_true rfl) [(0, .c (encVl (.mk k n a s args types code))), (1, .c (.bool false)), (2, .c (.bool false)), (3, .c (.bool true)), (4, .c (.int .i64 na)), (5, .c (.int .i64 nt)), (6, .c (.bool false))] rfl fun β hβ => ?_; have hf := Try.func141
    repeat' (first | refine st ?_ | refine uQ hf rfl rfl ?_ | ((first | refine AOps.splitT rfl rfl rfl asm (fun h => ?_) | refine AOps.splitF rfl rfl rfl asm (fun h => ?_) | refine AOps.split rfl rfl rfl (fun h => ?_) (fun h => ?_)) <;> (fail_if_success (cases h; done)) <;> rw [h]))
    all_goals
      show (_ : CV) = _
      clear hf
      refine congrArg CV.bool ?_
      (try generalize (encVls args).length = L1 at *)
      (try generalize (encTys types).length = L2 at *)
      (try generalize (encNds code).length = L3 at *)
      rw [Bool.eq_iff_iff]
      (try simp_all) <;> (try omega)
  · refine QCalls.of Try.func141 rfl (fun args w => Try.call141 args w) (Nat.le_of_ble_eq_true rfl) [(0, .c (encVl (.mk k n a s args types code))), (1, .c (.bool false)), (2, .c (.bool false)), (3, .c (.bool true)), (4, .c (.int .i64 na)), (5, .c (.int .i64 nt)), (6, .c (.bool true))] rfl fun β hβ => ?_; have hf := Try.func141
    repeat' (first | refine st ?_ | refine uQ hf rfl rfl ?_ | ((first | refine AOps.splitT rfl rfl rfl asm (fun h => ?_) | refine AOps.splitF rfl rfl rfl asm (fun h => ?_) | refine AOps.split rfl rfl rfl (fun h => ?_) (fun h => ?_)) <;> (fail_if_success (cases h; done)) <;> rw [h]))
    all_goals
      show (_ : CV) = _
      clear hf
      refine congrArg CV.bool ?_
      (try generalize (encVls args).length = L1 at *)
      (try generalize (encTys types).length = L2 at *)
      (try generalize (encNds code).length = L3 at *)
      rw [Bool.eq_iff_iff]
      (try simp_all) <;> (try omega)
  · refine QCalls.of Try.func141 rfl (fun args w => Try.call141 args w) (Nat.le_of_ble_eq_true rfl) [(0, .c (encVl (.mk k n a s args types code))), (1, .c (.bool false)), (2, .c (.bool true)), (3, .c (.bool false)), (4, .c (.int .i64 na)), (5, .c (.int .i64 nt)), (6, .c (.bool false))] rfl fun β hβ => ?_; have hf := Try.func141
    repeat' (first | refine st ?_ | refine uQ hf rfl rfl ?_ | ((first | refine AOps.splitT rfl rfl rfl asm (fun h => ?_) | refine AOps.splitF rfl rfl rfl asm (fun h => ?_) | refine AOps.split rfl rfl rfl (fun h => ?_) (fun h => ?_)) <;> (fail_if_success (cases h; done)) <;> rw [h]))
    all_goals
      show (_ : CV) = _
      clear hf
      refine congrArg CV.bool ?_
      (try generalize (encVls args).length = L1 at *)
      (try generalize (encTys types).length = L2 at *)
      (try generalize (encNds code).length = L3 at *)
      rw [Bool.eq_iff_iff]
      (try simp_all) <;> (try omega)
  · refine QCalls.of Try.func141 rfl (fun args w => Try.call141 args w) (Nat.le_of_ble_eq_true rfl) [(0, .c (encVl (.mk k n a s args types code))), (1, .c (.bool false)), (2, .c (.bool true)), (3, .c (.bool false)), (4, .c (.int .i64 na)), (5, .c (.int .i64 nt)), (6, .c (.bool true))] rfl fun β hβ => ?_; have hf := Try.func141
    repeat' (first | refine st ?_ | refine uQ hf rfl rfl ?_ | ((first | refine AOps.splitT rfl rfl rfl asm (fun h => ?_) | refine AOps.splitF rfl rfl rfl asm (fun h => ?_) | refine AOps.split rfl rfl rfl (fun h => ?_) (fun h => ?_)) <;> (fail_if_success (cases h; done)) <;> rw [h]))
    all_goals
      show (_ : CV) = _
      clear hf
      refine congrArg CV.bool ?_
      (try generalize (encVls args).length = L1 at *)
      (try generalize (encTys types).length = L2 at *)
      (try generalize (encNds code).length = L3 at *)
      rw [Bool.eq_iff_iff]
      (try simp_all) <;> (try omega)
  · refine QCalls.of Try.func141 rfl (fun args w => Try.call141 args w) (Nat.le_of_ble_eq_true rfl) [(0, .c (encVl (.mk k n a s args types code))), (1, .c (.bool false)), (2, .c (.bool true)), (3, .c (.bool true)), (4, .c (.int .i64 na)), (5, .c (.int .i64 nt)), (6, .c (.bool false))] rfl fun β hβ => ?_; have hf := Try.func141
    repeat' (first | refine st ?_ | refine uQ hf rfl rfl ?_ | ((first | refine AOps.splitT rfl rfl rfl asm (fun h => ?_) | refine AOps.splitF rfl rfl rfl asm (fun h => ?_) | refine AOps.split rfl rfl rfl (fun h => ?_) (fun h => ?_)) <;> (fail_if_success (cases h; done)) <;> rw [h]))
    all_goals
      show (_ : CV) = _
      clear hf
      refine congrArg CV.bool ?_
      (try generalize (encVls args).length = L1 at *)
      (try generalize (encTys types).length = L2 at *)
      (try generalize (encNds code).length = L3 at *)
      rw [Bool.eq_iff_iff]
      (try simp_all) <;> (try omega)
  · refine QCalls.of Try.func141 rfl (fun args w => Try.call141 args w) (Nat.le_of_ble_eq_true rfl) [(0, .c (encVl (.mk k n a s args types code))), (1, .c (.bool false)), (2, .c (.bool true)), (3, .c (.bool true)), (4, .c (.int .i64 na)), (5, .c (.int .i64 nt)), (6, .c (.bool true))] rfl fun β hβ => ?_; have hf := Try.func141
    repeat' (first | refine st ?_ | refine uQ hf rfl rfl ?_ | ((first | refine AOps.splitT rfl rfl rfl asm (fun h => ?_) | refine AOps.splitF rfl rfl rfl asm (fun h => ?_) | refine AOps.split rfl rfl rfl (fun h => ?_) (fun h => ?_)) <;> (fail_if_success (cases h; done)) <;> rw [h]))
    all_goals
      show (_ : CV) = _
      clear hf
      refine congrArg CV.bool ?_
      (try generalize (encVls args).length = L1 at *)
      (try generalize (encTys types).length = L2 at *)
      (try generalize (encNds code).length = L3 at *)
      rw [Bool.eq_iff_iff]
      (try simp_all) <;> (try omega)
  · refine QCalls.of Try.func141 rfl (fun args w => Try.call141 args w) (Nat.le_of_ble_eq_true rfl) [(0, .c (encVl (.mk k n a s args types code))), (1, .c (.bool true)), (2, .c (.bool false)), (3, .c (.bool false)), (4, .c (.int .i64 na)), (5, .c (.int .i64 nt)), (6, .c (.bool false))] rfl fun β hβ => ?_; have hf := Try.func141
    repeat' (first | refine st ?_ | refine uQ hf rfl rfl ?_ | ((first | refine AOps.splitT rfl rfl rfl asm (fun h => ?_) | refine AOps.splitF rfl rfl rfl asm (fun h => ?_) | refine AOps.split rfl rfl rfl (fun h => ?_) (fun h => ?_)) <;> (fail_if_success (cases h; done)) <;> rw [h]))
    all_goals
      show (_ : CV) = _
      clear hf
      refine congrArg CV.bool ?_
      (try generalize (encVls args).length = L1 at *)
      (try generalize (encTys types).length = L2 at *)
      (try generalize (encNds code).length = L3 at *)
      rw [Bool.eq_iff_iff]
      (try simp_all) <;> (try omega)
  · refine QCalls.of Try.func141 rfl (fun args w => Try.call141 args w) (Nat.le_of_ble_eq_true rfl) [(0, .c (encVl (.mk k n a s args types code))), (1, .c (.bool true)), (2, .c (.bool false)), (3, .c (.bool false)), (4, .c (.int .i64 na)), (5, .c (.int .i64 nt)), (6, .c (.bool true))] rfl fun β hβ => ?_; have hf := Try.func141
    repeat' (first | refine st ?_ | refine uQ hf rfl rfl ?_ | ((first | refine AOps.splitT rfl rfl rfl asm (fun h => ?_) | refine AOps.splitF rfl rfl rfl asm (fun h => ?_) | refine AOps.split rfl rfl rfl (fun h => ?_) (fun h => ?_)) <;> (fail_if_success (cases h; done)) <;> rw [h]))
    all_goals
      show (_ : CV) = _
      clear hf
      refine congrArg CV.bool ?_
      (try generalize (encVls args).length = L1 at *)
      (try generalize (encTys types).length = L2 at *)
      (try generalize (encNds code).length = L3 at *)
      rw [Bool.eq_iff_iff]
      (try simp_all) <;> (try omega)
  · refine QCalls.of Try.func141 rfl (fun args w => Try.call141 args w) (Nat.le_of_ble_eq_true rfl) [(0, .c (encVl (.mk k n a s args types code))), (1, .c (.bool true)), (2, .c (.bool false)), (3, .c (.bool true)), (4, .c (.int .i64 na)), (5, .c (.int .i64 nt)), (6, .c (.bool false))] rfl fun β hβ => ?_; have hf := Try.func141
    repeat' (first | refine st ?_ | refine uQ hf rfl rfl ?_ | ((first | refine AOps.splitT rfl rfl rfl asm (fun h => ?_) | refine AOps.splitF rfl rfl rfl asm (fun h => ?_) | refine AOps.split rfl rfl rfl (fun h => ?_) (fun h => ?_)) <;> (fail_if_success (cases h; done)) <;> rw [h]))
    all_goals
      show (_ : CV) = _
      clear hf
      refine congrArg CV.bool ?_
      (try generalize (encVls args).length = L1 at *)
      (try generalize (encTys types).length = L2 at *)
      (try generalize (encNds code).length = L3 at *)
      rw [Bool.eq_iff_iff]
      (try simp_all) <;> (try omega)
  · refine QCalls.of Try.func141 rfl (fun args w => Try.call141 args w) (Nat.le_of_ble_eq_true rfl) [(0, .c (encVl (.mk k n a s args types code))), (1, .c (.bool true)), (2, .c (.bool false)), (3, .c (.bool true)), (4, .c (.int .i64 na)), (5, .c (.int .i64 nt)), (6, .c (.bool true))] rfl fun β hβ => ?_; have hf := Try.func141
    repeat' (first | refine st ?_ | refine uQ hf rfl rfl ?_ | ((first | refine AOps.splitT rfl rfl rfl asm (fun h => ?_) | refine AOps.splitF rfl rfl rfl asm (fun h => ?_) | refine AOps.split rfl rfl rfl (fun h => ?_) (fun h => ?_)) <;> (fail_if_success (cases h; done)) <;> rw [h]))
    all_goals
      show (_ : CV) = _
      clear hf
      refine congrArg CV.bool ?_
      (try generalize (encVls args).length = L1 at *)
      (try generalize (encTys types).length = L2 at *)
      (try generalize (encNds code).length = L3 at *)
      rw [Bool.eq_iff_iff]
      (try simp_all) <;> (try omega)
  · refine QCalls.of Try.func141 rfl (fun args w => Try.call141 args w) (Nat.le_of_ble_eq_true rfl) [(0, .c (encVl (.mk k n a s args types code))), (1, .c (.bool true)), (2, .c (.bool true)), (3, .c (.bool false)), (4, .c (.int .i64 na)), (5, .c (.int .i64 nt)), (6, .c (.bool false))] rfl fun β hβ => ?_; have hf := Try.func141
    repeat' (first | refine st ?_ | refine uQ hf rfl rfl ?_ | ((first | refine AOps.splitT rfl rfl rfl asm (fun h => ?_) | refine AOps.splitF rfl rfl rfl asm (fun h => ?_) | refine AOps.split rfl rfl rfl (fun h => ?_) (fun h => ?_)) <;> (fail_if_success (cases h; done)) <;> rw [h]))
    all_goals
      show (_ : CV) = _
      clear hf
      refine congrArg CV.bool ?_
      (try generalize (encVls args).length = L1 at *)
      (try generalize (encTys types).length = L2 at *)
      (try generalize (encNds code).length = L3 at *)
      rw [Bool.eq_iff_iff]
      (try simp_all) <;> (try omega)
  · refine QCalls.of Try.func141 rfl (fun args w => Try.call141 args w) (Nat.le_of_ble_eq_true rfl) [(0, .c (encVl (.mk k n a s args types code))), (1, .c (.bool true)), (2, .c (.bool true)), (3, .c (.bool false)), (4, .c (.int .i64 na)), (5, .c (.int .i64 nt)), (6, .c (.bool true))] rfl fun β hβ => ?_; have hf := Try.func141
    repeat' (first | refine st ?_ | refine uQ hf rfl rfl ?_ | ((first | refine AOps.splitT rfl rfl rfl asm (fun h => ?_) | refine AOps.splitF rfl rfl rfl asm (fun h => ?_) | refine AOps.split rfl rfl rfl (fun h => ?_) (fun h => ?_)) <;> (fail_if_success (cases h; done)) <;> rw [h]))
    all_goals
      show (_ : CV) = _
      clear hf
      refine congrArg CV.bool ?_
      (try generalize (encVls args).length = L1 at *)
      (try generalize (encTys types).length = L2 at *)
      (try generalize (encNds code).length = L3 at *)
      rw [Bool.eq_iff_iff]
      (try simp_all) <;> (try omega)
  · refine QCalls.of Try.func141 rfl (fun args w => Try.call141 args w) (Nat.le_of_ble_eq_true rfl) [(0, .c (encVl (.mk k n a s args types code))), (1, .c (.bool true)), (2, .c (.bool true)), (3, .c (.bool true)), (4, .c (.int .i64 na)), (5, .c (.int .i64 nt)), (6, .c (.bool false))] rfl fun β hβ => ?_; have hf := Try.func141
    repeat' (first | refine st ?_ | refine uQ hf rfl rfl ?_ | ((first | refine AOps.splitT rfl rfl rfl asm (fun h => ?_) | refine AOps.splitF rfl rfl rfl asm (fun h => ?_) | refine AOps.split rfl rfl rfl (fun h => ?_) (fun h => ?_)) <;> (fail_if_success (cases h; done)) <;> rw [h]))
    all_goals
      show (_ : CV) = _
      clear hf
      refine congrArg CV.bool ?_
      (try generalize (encVls args).length = L1 at *)
      (try generalize (encTys types).length = L2 at *)
      (try generalize (encNds code).length = L3 at *)
      rw [Bool.eq_iff_iff]
      (try simp_all) <;> (try omega)
  · refine QCalls.of Try.func141 rfl (fun args w => Try.call141 args w) (Nat.le_of_ble_eq_true rfl) [(0, .c (encVl (.mk k n a s args types code))), (1, .c (.bool true)), (2, .c (.bool true)), (3, .c (.bool true)), (4, .c (.int .i64 na)), (5, .c (.int .i64 nt)), (6, .c (.bool true))] rfl fun β hβ => ?_; have hf := Try.func141
    repeat' (first | refine st ?_ | refine uQ hf rfl rfl ?_ | ((first | refine AOps.splitT rfl rfl rfl asm (fun h => ?_) | refine AOps.splitF rfl rfl rfl asm (fun h => ?_) | refine AOps.split rfl rfl rfl (fun h => ?_) (fun h => ?_)) <;> (fail_if_success (cases h; done)) <;> rw [h]))
    all_goals
      show (_ : CV) = _
      clear hf
      refine congrArg CV.bool ?_
      (try generalize (encVls args).length = L1 at *)
      (try generalize (encTys types).length = L2 at *)
      (try generalize (encNds code).length = L3 at *)
      rw [Bool.eq_iff_iff]
      (try simp_all) <;> (try omega)

set_option maxHeartbeats 0 in
theorem Order_calls : ∀ (v w : Vl) (t : Ty), tComp t = true → tBad t = false → vHas v t = true → vHas w t = true → vlSize v ≤ 1048577 → QCalls Try.prog Try.X 113 [encVl v, encVl w] (.int .i64 (rOrd v w))
  | .mk k n a s args types code, .mk k' n' a' s' args' types' code', t, htc, hb, hv, hw, hsz => by
    simp only [vlSize] at hsz
    have hl1 := vlsSize_len args
    have hargs := ord_args htc hb hv hw
    have hkk : k' = k := by rw [(vHas_head hv).1, (vHas_head hw).1]
    subst hkk
    clear hv hw
    have hin : ∀ x ∈ args, ∀ y u, tComp u = true → tBad u = false → vHas x u = true → vHas y u = true → QCalls Try.prog Try.X 113 [encVl x, encVl y] (.int .i64 (rOrd x y)) := fun x hx y u h1 h2 h3 h4 => Order_calls x y u h1 h2 h3 h4 (by have := vlsSize_mem hx; omega)
    rw [rOrd_mk]
    unfold ordN at *
    by_cases c9 : k' = 9
    · subst c9
      simp only [if_true] at *
      rw [← encVls_length, ← encVls_length args']
      by_cases c1 : (((encVls args).length : Nat) : Int) < (((encVls args').length : Nat) : Int)
      · rw [if_pos (.inl c1)]
        have e1 : decide ((((encVls args).length : Nat) : Int) < (((encVls args').length : Nat) : Int)) = true := decide_eq_true c1
        clear hargs
        refine QCalls.of Try.func113 rfl (fun args w => Try.call113 args w) (Nat.le_of_ble_eq_true rfl) [(0, .c (encVl (.mk 9 n a s args types code))), (1, .c (encVl (.mk 9 n' a' s' args' types' code')))] rfl fun β hβ => ?_; have hf := Try.func113
        exact dq
      have e1 : decide ((((encVls args).length : Nat) : Int) < (((encVls args').length : Nat) : Int)) = false := decide_eq_false c1
      by_cases c2 : Op.bytesLess s s' = true
      · rw [if_pos (.inr c2)]
        clear hargs
        refine QCalls.of Try.func113 rfl (fun args w => Try.call113 args w) (Nat.le_of_ble_eq_true rfl) [(0, .c (encVl (.mk 9 n a s args types code))), (1, .c (encVl (.mk 9 n' a' s' args' types' code')))] rfl fun β hβ => ?_; have hf := Try.func113
        exact dq
      rw [if_neg (by rintro (h | h); exact c1 h; exact c2 h)]
      have e2 : Op.bytesLess s s' = false := by simpa using c2
      by_cases c3 : (((encVls args).length : Nat) : Int) > (((encVls args').length : Nat) : Int)
      · rw [if_pos (.inl c3)]
        have e3 : decide ((((encVls args).length : Nat) : Int) > (((encVls args').length : Nat) : Int)) = true := decide_eq_true c3
        clear hargs
        refine QCalls.of Try.func113 rfl (fun args w => Try.call113 args w) (Nat.le_of_ble_eq_true rfl) [(0, .c (encVl (.mk 9 n a s args types code))), (1, .c (encVl (.mk 9 n' a' s' args' types' code')))] rfl fun β hβ => ?_; have hf := Try.func113
        exact dq
      have e3 : decide ((((encVls args).length : Nat) : Int) > (((encVls args').length : Nat) : Int)) = false := decide_eq_false c3
      by_cases c4 : Op.bytesLess s' s = true
      · rw [if_pos (.inr c4)]
        have e4 : (!(Op.bytesLess s s' || s == s')) = true := by rw [strGt]; exact c4
        clear hargs
        refine QCalls.of Try.func113 rfl (fun args w => Try.call113 args w) (Nat.le_of_ble_eq_true rfl) [(0, .c (encVl (.mk 9 n a s args types code))), (1, .c (encVl (.mk 9 n' a' s' args' types' code')))] rfl fun β hβ => ?_; have hf := Try.func113
        exact dq
      rw [if_neg (by rintro (h | h); exact c3 h; exact c4 h)]
      have e4 : (!(Op.bytesLess s s' || s == s')) = false := by rw [strGt]; simpa using c4
      obtain ⟨ts, hz1, hz2, hlen⟩ := hargs (by first | omega | (simp only [encVls_length] at c1 c3; omega))
      clear hargs
      refine QCalls.of Try.func113 rfl (fun args w => Try.call113 args w) (Nat.le_of_ble_eq_true rfl) [(0, .c (encVl (.mk 9 n a s args types code))), (1, .c (encVl (.mk 9 n' a' s' args' types' code')))] rfl fun β hβ => ?_; have hf := Try.func113
      repeat' (first | refine st ?_ | (refine AK.condS rfl (fun h => ?_) (fun h => ?_) <;> first | (cases h; done) | rw [h] | skip) | refine uQ hf rfl rfl ?_ | ((first | refine AOps.splitT rfl rfl rfl asm (fun h => ?_) | refine AOps.splitF rfl rfl rfl asm (fun h => ?_) | refine AOps.split rfl rfl rfl (fun h => ?_) (fun h => ?_)) <;> (fail_if_success (cases h; done)) <;> rw [h]))
      refine AK.loopE (α := Nat) (fun i => i ≤ args.length ∧ rOrds args args' = rOrds (args.drop i) (args'.drop i)) (fun i => args.length - i)
        (fun i => [(45, .c (.int .i64 i)), (44, .c (.int .i64 (encVls args).length)), (2, .ptr 2 0), (3, .ptr 3 0)])
        (fun _ => [(2, [.c (.int .i64 9), .c (.int .i64 n), .c (.int .i64 a), .c (.str s), .c (.sl 7 (encVls args)), .c (.sl 2 (encTys types)), .c (.sl 5 (encNds code))]), (3, [.c (.int .i64 9), .c (.int .i64 n'), .c (.int .i64 a'), .c (.str s'), .c (.sl 7 (encVls args')), .c (.sl 2 (encTys types')), .c (.sl 5 (encNds code'))])]) (fun _ => []) [2, 3] 0
        ⟨by omega, rfl⟩ ⟨.inl rfl, .inl rfl, .inl rfl, .inl rfl, trivial⟩ ⟨rfl, rfl, trivial⟩ trivial rfl rfl rfl ?_
      rintro i ⟨hi, hinv⟩ ih
      rcases get_or args i hi with ⟨x, hx, hm⟩ | he
      · have hcc := vls_lt hx
        obtain ⟨y, hy⟩ : ∃ y, args'[i]? = some y := ⟨args'[i]'(by have := lt_of_get hx; omega), by simp⟩
        obtain ⟨u, u1, u2, u3, u4⟩ := hasZ_get hz1 hx
        obtain ⟨u', u1', u2', u3', u4'⟩ := hasZ_get hz2 hy
        obtain rfl : u = u' := by rw [u1] at u1'; cases u1'; rfl
        have hq := hin x hm y u u3 u4 u2 u2'
        rw [drop_at hx, drop_at hy, rOrds_cons] at hinv
        by_cases z : rOrd x y = 0
        · rw [if_pos z] at hinv
          rw [z] at hq
          obtain ⟨x1, x2, x3, x4, x5, x6, x7⟩ := x
          obtain ⟨y1, y2, y3, y4, y5, y6, y7⟩ := y
          repeat' (first | refine st ?_ | (refine AK.condS rfl (fun h => ?_) (fun h => ?_) <;> first | (cases h; done) | rw [h] | skip) | refine uQ hf rfl rfl ?_ | refine uI rfl (i) rfl (vls_at hx) rfl ?_ | refine uI rfl (i) rfl (vls_at hy) rfl ?_ | refine uC rfl hq ?_ | ((first | refine AOps.splitT rfl rfl rfl asm (fun h => ?_) | refine AOps.splitF rfl rfl rfl asm (fun h => ?_) | refine AOps.split rfl rfl rfl (fun h => ?_) (fun h => ?_)) <;> (fail_if_success (cases h; done)) <;> rw [h]))
          exact AK.again (ih (i + 1) ⟨lt_of_get hx, hinv⟩ (by have := lt_of_get hx; omega)) ⟨.inl (succ64 (by have := lt_of_get hx; omega)), .inl rfl, .inl rfl, .inl rfl, trivial⟩ ⟨rfl, rfl, trivial⟩ trivial rfl rfl rfl
        · rw [if_neg z] at hinv
          have ez : (rOrd x y != 0) = true := by simpa using z
          rw [hinv]
          clear ih hinv
          generalize rOrd x y = q at *
          obtain ⟨x1, x2, x3, x4, x5, x6, x7⟩ := x
          obtain ⟨y1, y2, y3, y4, y5, y6, y7⟩ := y
          have tsr1 := vls_at hx
          have tsr2 := vls_at hy
          exact dq
      · have hcc := vls_end he
        have h0 : rOrds args args' = 0 := by rw [hinv, he, List.drop_length, rOrds_nil]
        rw [h0]
        clear ih hinv h0
        exact dq
    · simp only [if_neg c9] at *
      have e9 : (k' == 9) = false := by simpa using c9
      by_cases c1 : n < n'
      · rw [if_pos (.inl c1)]
        have e1 : decide (n < n') = true := decide_eq_true c1
        clear hargs
        refine QCalls.of Try.func113 rfl (fun args w => Try.call113 args w) (Nat.le_of_ble_eq_true rfl) [(0, .c (encVl (.mk k' n a s args types code))), (1, .c (encVl (.mk k' n' a' s' args' types' code')))] rfl fun β hβ => ?_; have hf := Try.func113
        exact dq
      have e1 : decide (n < n') = false := decide_eq_false c1
      by_cases c2 : Op.bytesLess s s' = true
      · rw [if_pos (.inr c2)]
        clear hargs
        refine QCalls.of Try.func113 rfl (fun args w => Try.call113 args w) (Nat.le_of_ble_eq_true rfl) [(0, .c (encVl (.mk k' n a s args types code))), (1, .c (encVl (.mk k' n' a' s' args' types' code')))] rfl fun β hβ => ?_; have hf := Try.func113
        exact dq
      rw [if_neg (by rintro (h | h); exact c1 h; exact c2 h)]
      have e2 : Op.bytesLess s s' = false := by simpa using c2
      by_cases c3 : n > n'
      · rw [if_pos (.inl c3)]
        have e3 : decide (n > n') = true := decide_eq_true c3
        clear hargs
        refine QCalls.of Try.func113 rfl (fun args w => Try.call113 args w) (Nat.le_of_ble_eq_true rfl) [(0, .c (encVl (.mk k' n a s args types code))), (1, .c (encVl (.mk k' n' a' s' args' types' code')))] rfl fun β hβ => ?_; have hf := Try.func113
        exact dq
      have e3 : decide (n > n') = false := decide_eq_false c3
      by_cases c4 : Op.bytesLess s' s = true
      · rw [if_pos (.inr c4)]
        have e4 : (!(Op.bytesLess s s' || s == s')) = true := by rw [strGt]; exact c4
        clear hargs
        refine QCalls.of Try.func113 rfl (fun args w => Try.call113 args w) (Nat.le_of_ble_eq_true rfl) [(0, .c (encVl (.mk k' n a s args types code))), (1, .c (encVl (.mk k' n' a' s' args' types' code')))] rfl fun β hβ => ?_; have hf := Try.func113
        exact dq
      rw [if_neg (by rintro (h | h); exact c3 h; exact c4 h)]
      have e4 : (!(Op.bytesLess s s' || s == s')) = false := by rw [strGt]; simpa using c4
      obtain ⟨ts, hz1, hz2, hlen⟩ := hargs (by first | omega | (simp only [encVls_length] at c1 c3; omega))
      clear hargs
      refine QCalls.of Try.func113 rfl (fun args w => Try.call113 args w) (Nat.le_of_ble_eq_true rfl) [(0, .c (encVl (.mk k' n a s args types code))), (1, .c (encVl (.mk k' n' a' s' args' types' code')))] rfl fun β hβ => ?_; have hf := Try.func113
      repeat' (first | refine st ?_ | (refine AK.condS rfl (fun h => ?_) (fun h => ?_) <;> first | (cases h; done) | rw [h] | skip) | refine uQ hf rfl rfl ?_ | ((first | refine AOps.splitT rfl rfl rfl asm (fun h => ?_) | refine AOps.splitF rfl rfl rfl asm (fun h => ?_) | refine AOps.split rfl rfl rfl (fun h => ?_) (fun h => ?_)) <;> (fail_if_success (cases h; done)) <;> rw [h]))
      refine AK.loopE (α := Nat) (fun i => i ≤ args.length ∧ rOrds args args' = rOrds (args.drop i) (args'.drop i)) (fun i => args.length - i)
        (fun i => [(45, .c (.int .i64 i)), (44, .c (.int .i64 (encVls args).length)), (2, .ptr 2 0), (3, .ptr 3 0)])
        (fun _ => [(2, [.c (.int .i64 k'), .c (.int .i64 n), .c (.int .i64 a), .c (.str s), .c (.sl 7 (encVls args)), .c (.sl 2 (encTys types)), .c (.sl 5 (encNds code))]), (3, [.c (.int .i64 k'), .c (.int .i64 n'), .c (.int .i64 a'), .c (.str s'), .c (.sl 7 (encVls args')), .c (.sl 2 (encTys types')), .c (.sl 5 (encNds code'))])]) (fun _ => []) [2, 3] 0
        ⟨by omega, rfl⟩ ⟨.inl rfl, .inl rfl, .inl rfl, .inl rfl, trivial⟩ ⟨rfl, rfl, trivial⟩ trivial rfl rfl rfl ?_
      rintro i ⟨hi, hinv⟩ ih
      rcases get_or args i hi with ⟨x, hx, hm⟩ | he
      · have hcc := vls_lt hx
        obtain ⟨y, hy⟩ : ∃ y, args'[i]? = some y := ⟨args'[i]'(by have := lt_of_get hx; omega), by simp⟩
        obtain ⟨u, u1, u2, u3, u4⟩ := hasZ_get hz1 hx
        obtain ⟨u', u1', u2', u3', u4'⟩ := hasZ_get hz2 hy
        obtain rfl : u = u' := by rw [u1] at u1'; cases u1'; rfl
        have hq := hin x hm y u u3 u4 u2 u2'
        rw [drop_at hx, drop_at hy, rOrds_cons] at hinv
        by_cases z : rOrd x y = 0
        · rw [if_pos z] at hinv
          rw [z] at hq
          obtain ⟨x1, x2, x3, x4, x5, x6, x7⟩ := x
          obtain ⟨y1, y2, y3, y4, y5, y6, y7⟩ := y
          repeat' (first | refine st ?_ | (refine AK.condS rfl (fun h => ?_) (fun h => ?_) <;> first | (cases h; done) | rw [h] | skip) | refine uQ hf rfl rfl ?_ | refine uI rfl (i) rfl (vls_at hx) rfl ?_ | refine uI rfl (i) rfl (vls_at hy) rfl ?_ | refine uC rfl hq ?_ | ((first | refine AOps.splitT rfl rfl rfl asm (fun h => ?_) | refine AOps.splitF rfl rfl rfl asm (fun h => ?_) | refine AOps.split rfl rfl rfl (fun h => ?_) (fun h => ?_)) <;> (fail_if_success (cases h; done)) <;> rw [h]))
          exact AK.again (ih (i + 1) ⟨lt_of_get hx, hinv⟩ (by have := lt_of_get hx; omega)) ⟨.inl (succ64 (by have := lt_of_get hx; omega)), .inl rfl, .inl rfl, .inl rfl, trivial⟩ ⟨rfl, rfl, trivial⟩ trivial rfl rfl rfl
        · rw [if_neg z] at hinv
          have ez : (rOrd x y != 0) = true := by simpa using z
          rw [hinv]
          clear ih hinv
          generalize rOrd x y = q at *
          obtain ⟨x1, x2, x3, x4, x5, x6, x7⟩ := x
          obtain ⟨y1, y2, y3, y4, y5, y6, y7⟩ := y
          have tsr3 := vls_at hx
          have tsr4 := vls_at hy
          exact dq
      · have hcc := vls_end he
        have h0 : rOrds args args' = 0 := by rw [hinv, he, List.drop_length, rOrds_nil]
        rw [h0]
        clear ih hinv h0
        exact dq
termination_by v => SizeOf.sizeOf v
decreasing_by
  have := List.sizeOf_lt_of_mem hx
  simp at this ⊢; omega
end Go.Proofs

set_option linter.unusedVariables false
set_option linter.unusedSimpArgs false
set_option maxRecDepth 100000
namespace Go.Proofs
open Go.Abs
theorem vlsWf_of {k n a : Int} {s : List UInt8} {args : List Vl} {types : List Ty} {code : List Nd} (h : vlWf (.mk k n a s args types code)) : I64 n ∧ vlsWf args := by
  simp only [vlWf] at h; exact ⟨h.2.1, h.2.2.2.1⟩
attribute [local irreducible] AK AOps QCalls ECalls vCmp vHas vHasAll vHasRow vSame vsSame tGood tComp tGoodN vSize tySame tysSame ndSame ndsSame tHas rOrd rOrds bareB mapB vUp

set_option maxHeartbeats 0 in
theorem rHas_of (u : Ty) (x : Vl) (hu : tySize u ≤ 1048577) (hq : tGood u = true → QCalls Try.prog Try.X 114 [encTy u, encVl x] (.bool (vHas x u))) : QCalls Try.prog Try.X 71 [encTy u, encVl x] (.bool (tHas u x)) := by
  obtain ⟨T, ts⟩ := u
  obtain ⟨x1, x2, x3, x4, x5, x6, x7⟩ := x
  have h1 := GoodType_calls (.mk T ts) hu
  cases hg : tGood (.mk T ts) with
  | false =>
    rw [hg] at h1
    rw [show tHas (.mk T ts) (.mk x1 x2 x3 x4 x5 x6 x7) = false from by unfold tHas; rw [hg, Bool.false_and]]
    refine QCalls.of Try.func71 rfl (fun args w => Try.call71 args w) (Nat.le_of_ble_eq_true rfl) [(0, .c (encTy (.mk T ts))), (1, .c (encVl (.mk x1 x2 x3 x4 x5 x6 x7)))] rfl fun β hβ => ?_; have hf := Try.func71
    exact dq
  | true =>
    have h2 := hq hg
    rw [hg] at h1
    rw [show tHas (.mk T ts) (.mk x1 x2 x3 x4 x5 x6 x7) = vHas (.mk x1 x2 x3 x4 x5 x6 x7) (.mk T ts) from by unfold tHas; rw [hg, Bool.true_and]]
    generalize vHas (.mk x1 x2 x3 x4 x5 x6 x7) (.mk T ts) = b at h2
    refine QCalls.of Try.func71 rfl (fun args w => Try.call71 args w) (Nat.le_of_ble_eq_true rfl) [(0, .c (encTy (.mk T ts))), (1, .c (encVl (.mk x1 x2 x3 x4 x5 x6 x7)))] rfl fun β hβ => ?_; have hf := Try.func71
    exact dq

set_option maxHeartbeats 0 in
theorem rhas_calls : ∀ (v : Vl) (t : Ty), tBad t = false → tKeys t = true → vlWf v → vlSize v ≤ 1048577 → tySize t ≤ 1048577 → QCalls Try.prog Try.X 114 [encTy t, encVl v] (.bool (vHas v t))
  | .mk k n a s args types code, .mk T ts, hb, hky, hwf, hv, ht => by
    obtain ⟨hn64, hwa⟩ := vlsWf_of hwf
    simp only [vlSize] at hv
    simp only [tySize] at ht
    have hl1 := vlsSize_len args
    have hin : ∀ x ∈ args, ∀ u, tBad u = false → tKeys u = true → tySize u ≤ 1048577 → QCalls Try.prog Try.X 114 [encTy u, encVl x] (.bool (vHas x u)) := fun x hx u h1 h2 h3 => rhas_calls x u h1 h2 (vlsWf_mem hwa hx) (by have := vlsSize_mem hx; omega) h3
    clear hwf
    by_cases d1 : k = T
    rotate_left
    · have e1 : (T != k) = true := by simp; exact fun h => d1 h.symm
      rw [has_no _ _ _ _ _ _ _ _ (.inl d1)]
      refine QCalls.of Try.func114 rfl (fun args w => Try.call114 args w) (Nat.le_of_ble_eq_true rfl) [(0, .c (encTy (.mk T ts))), (1, .c (encVl (.mk k n a s args types code)))] rfl fun β hβ => ?_; have hf := Try.func114
      exact dq
    subst d1
    have e1 : (k != k) = false := by simp
    obtain ⟨har, hbs⟩ := tBad_args hb
    simp only [tyT, tyArgs] at har hbs
    have hks : tsKeys ts = true := by simp only [tKeys, Bool.and_eq_true] at hky; exact hky.2
    by_cases c : k = 1
    · subst c
      rw [rb1]
      have h0 := bare_calls (.mk 1 n a s args types code) false false false 0 0 false
      generalize bareB (.mk 1 n a s args types code) false false false 0 0 false = B at h0
      refine QCalls.of Try.func114 rfl (fun args w => Try.call114 args w) (Nat.le_of_ble_eq_true rfl) [(0, .c (encTy (.mk 1 ts))), (1, .c (encVl (.mk 1 n a s args types code)))] rfl fun β hβ => ?_; have hf := Try.func114
      repeat' (first | refine st ?_ | (refine AK.condS rfl (fun h => ?_) (fun h => ?_) <;> first | (cases h; done) | rw [h] | skip) | refine uQ hf rfl rfl ?_ | refine uC rfl h0 ?_ | ((first | refine AOps.splitT rfl rfl rfl asm (fun h => ?_) | refine AOps.splitF rfl rfl rfl asm (fun h => ?_) | refine AOps.split rfl rfl rfl (fun h => ?_) (fun h => ?_)) <;> (fail_if_success (cases h; done)) <;> rw [h]))
      all_goals
        show (_ : CV) = _
        clear hf hin h0 
        simp_all
    by_cases c : k = 2
    · subst c
      rw [rb2]
      have h0 := bare_calls (.mk 2 n a s args types code) true false false 0 0 false
      generalize bareB (.mk 2 n a s args types code) true false false 0 0 false = B at h0
      refine QCalls.of Try.func114 rfl (fun args w => Try.call114 args w) (Nat.le_of_ble_eq_true rfl) [(0, .c (encTy (.mk 2 ts))), (1, .c (encVl (.mk 2 n a s args types code)))] rfl fun β hβ => ?_; have hf := Try.func114
      repeat' (first | refine st ?_ | (refine AK.condS rfl (fun h => ?_) (fun h => ?_) <;> first | (cases h; done) | rw [h] | skip) | refine uQ hf rfl rfl ?_ | refine uC rfl h0 ?_ | ((first | refine AOps.splitT rfl rfl rfl asm (fun h => ?_) | refine AOps.splitF rfl rfl rfl asm (fun h => ?_) | refine AOps.split rfl rfl rfl (fun h => ?_) (fun h => ?_)) <;> (fail_if_success (cases h; done)) <;> rw [h]))
      all_goals
        show (_ : CV) = _
        clear hf hin h0 
        simp_all
    by_cases c : k = 3
    · subst c
      rw [rb3]
      have h0 := bare_calls (.mk 3 n a s args types code) true false false 0 0 false
      generalize bareB (.mk 3 n a s args types code) true false false 0 0 false = B at h0
      have h1 := rIn_calls n hn64
      rw [nIn_dec] at h1
      refine QCalls.of Try.func114 rfl (fun args w => Try.call114 args w) (Nat.le_of_ble_eq_true rfl) [(0, .c (encTy (.mk 3 ts))), (1, .c (encVl (.mk 3 n a s args types code)))] rfl fun β hβ => ?_; have hf := Try.func114
      repeat' (first | refine st ?_ | (refine AK.condS rfl (fun h => ?_) (fun h => ?_) <;> first | (cases h; done) | rw [h] | skip) | refine uQ hf rfl rfl ?_ | refine uC rfl h0 ?_ | refine uC rfl h1 ?_ | ((first | refine AOps.splitT rfl rfl rfl asm (fun h => ?_) | refine AOps.splitF rfl rfl rfl asm (fun h => ?_) | refine AOps.split rfl rfl rfl (fun h => ?_) (fun h => ?_)) <;> (fail_if_success (cases h; done)) <;> rw [h]))
      all_goals
        show (_ : CV) = _
        clear hf hin h0 h1
        simp_all
    by_cases c : k = 4
    · subst c
      rw [rb45 4 n a (.inl rfl)]
      have h0 := bare_calls (.mk 4 n a s args types code) true false false 0 0 false
      generalize bareB (.mk 4 n a s args types code) true false false 0 0 false = B at h0
      have h1 := natural_calls n
      refine QCalls.of Try.func114 rfl (fun args w => Try.call114 args w) (Nat.le_of_ble_eq_true rfl) [(0, .c (encTy (.mk 4 ts))), (1, .c (encVl (.mk 4 n a s args types code)))] rfl fun β hβ => ?_; have hf := Try.func114
      repeat' (first | refine st ?_ | (refine AK.condS rfl (fun h => ?_) (fun h => ?_) <;> first | (cases h; done) | rw [h] | skip) | refine uQ hf rfl rfl ?_ | refine uC rfl h0 ?_ | refine uC rfl h1 ?_ | ((first | refine AOps.splitT rfl rfl rfl asm (fun h => ?_) | refine AOps.splitF rfl rfl rfl asm (fun h => ?_) | refine AOps.split rfl rfl rfl (fun h => ?_) (fun h => ?_)) <;> (fail_if_success (cases h; done)) <;> rw [h]))
      all_goals
        show (_ : CV) = _
        clear hf hin h0 h1
        simp_all
    by_cases c : k = 5
    · subst c
      rw [rb45 5 n a (.inr rfl)]
      have h0 := bare_calls (.mk 5 n a s args types code) true false false 0 0 false
      generalize bareB (.mk 5 n a s args types code) true false false 0 0 false = B at h0
      have h1 := natural_calls n
      refine QCalls.of Try.func114 rfl (fun args w => Try.call114 args w) (Nat.le_of_ble_eq_true rfl) [(0, .c (encTy (.mk 5 ts))), (1, .c (encVl (.mk 5 n a s args types code)))] rfl fun β hβ => ?_; have hf := Try.func114
      repeat' (first | refine st ?_ | (refine AK.condS rfl (fun h => ?_) (fun h => ?_) <;> first | (cases h; done) | rw [h] | skip) | refine uQ hf rfl rfl ?_ | refine uC rfl h0 ?_ | refine uC rfl h1 ?_ | ((first | refine AOps.splitT rfl rfl rfl asm (fun h => ?_) | refine AOps.splitF rfl rfl rfl asm (fun h => ?_) | refine AOps.split rfl rfl rfl (fun h => ?_) (fun h => ?_)) <;> (fail_if_success (cases h; done)) <;> rw [h]))
      all_goals
        show (_ : CV) = _
        clear hf hin h0 h1
        simp_all
    by_cases c : k = 6
    · subst c
      rw [rb6]
      have h0 := bare_calls (.mk 6 n a s args types code) false false true 0 0 false
      generalize bareB (.mk 6 n a s args types code) false false true 0 0 false = B at h0
      refine QCalls.of Try.func114 rfl (fun args w => Try.call114 args w) (Nat.le_of_ble_eq_true rfl) [(0, .c (encTy (.mk 6 ts))), (1, .c (encVl (.mk 6 n a s args types code)))] rfl fun β hβ => ?_; have hf := Try.func114
      repeat' (first | refine st ?_ | (refine AK.condS rfl (fun h => ?_) (fun h => ?_) <;> first | (cases h; done) | rw [h] | skip) | refine uQ hf rfl rfl ?_ | refine uC rfl h0 ?_ | ((first | refine AOps.splitT rfl rfl rfl asm (fun h => ?_) | refine AOps.splitF rfl rfl rfl asm (fun h => ?_) | refine AOps.split rfl rfl rfl (fun h => ?_) (fun h => ?_)) <;> (fail_if_success (cases h; done)) <;> rw [h]))
      all_goals
        show (_ : CV) = _
        clear hf hin h0 
        simp_all
    by_cases c : k = 7
    · subst c
      rw [rb7]
      have h0 := bare_calls (.mk 7 n a s args types code) true false false 0 0 false
      generalize bareB (.mk 7 n a s args types code) true false false 0 0 false = B at h0
      have h1 := isAddress_calls n
      refine QCalls.of Try.func114 rfl (fun args w => Try.call114 args w) (Nat.le_of_ble_eq_true rfl) [(0, .c (encTy (.mk 7 ts))), (1, .c (encVl (.mk 7 n a s args types code)))] rfl fun β hβ => ?_; have hf := Try.func114
      repeat' (first | refine st ?_ | (refine AK.condS rfl (fun h => ?_) (fun h => ?_) <;> first | (cases h; done) | rw [h] | skip) | refine uQ hf rfl rfl ?_ | refine uC rfl h0 ?_ | refine uC rfl h1 ?_ | ((first | refine AOps.splitT rfl rfl rfl asm (fun h => ?_) | refine AOps.splitF rfl rfl rfl asm (fun h => ?_) | refine AOps.split rfl rfl rfl (fun h => ?_) (fun h => ?_)) <;> (fail_if_success (cases h; done)) <;> rw [h]))
      all_goals
        show (_ : CV) = _
        clear hf hin h0 h1
        simp_all
    by_cases c : k = 8
    · subst c
      rw [rb8]
      have h0 := bare_calls (.mk 8 n a s args types code) true true false 1 1 false
      have h1 := natural_calls n
      have h2 := isAddress_calls a
      cases hB : bareB (.mk 8 n a s args types code) true true false 1 1 false with
      | false =>
        rw [hB] at h0
        refine QCalls.of Try.func114 rfl (fun args w => Try.call114 args w) (Nat.le_of_ble_eq_true rfl) [(0, .c (encTy (.mk 8 ts))), (1, .c (encVl (.mk 8 n a s args types code)))] rfl fun β hβ => ?_; have hf := Try.func114
        exact dq
      | true =>
        rw [hB] at h0
        have hsh : args.length = 1 ∧ types.length = 1 := by
          unfold bareB at hB; simp at hB; omega
        obtain ⟨x, rfl⟩ := len1 hsh.1
        obtain ⟨u, rfl⟩ := tlen1 hsh.2
        clear hB
        have hus : tySize u ≤ 1048577 := by have := tysSize_mem (l := [u]) (x := u) (by simp); omega
        have h3 := rHas_of u x hus (fun hg => hin x (by simp) u (tGood_bad hg) (tGood_keys hg) hus)
        rw [show (tGood ([u].getD 0 ty0) && vHasAll [x] ([u].getD 0 ty0)) = tHas u x from by unfold tHas vHasAll; unfold vHasAll; simp]
        have g1 : [u][0]? = some u := rfl
        have g3 : [x][0]? = some x := rfl
        generalize tHas u x = b1 at h3
        obtain ⟨U, us⟩ := u
        obtain ⟨x1, x2, x3, x4, x5, x6, x7⟩ := x
        refine QCalls.of Try.func114 rfl (fun args w => Try.call114 args w) (Nat.le_of_ble_eq_true rfl) [(0, .c (encTy (.mk 8 ts))), (1, .c (encVl (.mk 8 n a s [.mk x1 x2 x3 x4 x5 x6 x7] [.mk U us] code)))] rfl fun β hβ => ?_; have hf := Try.func114
        repeat' (first | refine st ?_ | (refine AK.condS rfl (fun h => ?_) (fun h => ?_) <;> first | (cases h; done) | rw [h] | skip) | refine uQ hf rfl rfl ?_ | refine uC rfl h0 ?_ | refine uC rfl h1 ?_ | refine uC rfl h2 ?_ | refine uC rfl h3 ?_ | refine uI rfl (0) rfl (tys_at g1) rfl ?_ | refine uI rfl (0) rfl (vls_at g3) rfl ?_ | ((first | refine AOps.splitT rfl rfl rfl asm (fun h => ?_) | refine AOps.splitF rfl rfl rfl asm (fun h => ?_) | refine AOps.split rfl rfl rfl (fun h => ?_) (fun h => ?_)) <;> (fail_if_success (cases h; done)) <;> rw [h]))
        all_goals
          show (_ : CV) = _
          clear hf hin h0 h1 h2 h3
          refine congrArg CV.bool ?_
          cases b1 <;> (try simp_all) <;> (try omega)
    by_cases c : k = 9
    · subst c
      rw [rb9]
      have h0 := bare_calls (.mk 9 n a s args types code) false false false args.length 0 false
      rw [← encVls_length] at h0 ⊢
      cases hB : bareB (.mk 9 n a s args types code) false false false (encVls args).length 0 false with
      | false =>
        rw [hB] at h0
        refine QCalls.of Try.func114 rfl (fun args w => Try.call114 args w) (Nat.le_of_ble_eq_true rfl) [(0, .c (encTy (.mk 9 ts))), (1, .c (encVl (.mk 9 n a s args types code)))] rfl fun β hβ => ?_; have hf := Try.func114
        exact dq
      | true =>
        rw [hB] at h0
        by_cases hl : (((encVls args).length : Nat) : Int) ≤ 1
        rotate_left
        · rw [decide_eq_false hl]
          have e3 : decide ((((encVls args).length : Nat) : Int) > 1) = true := decide_eq_true (by omega)
          refine QCalls.of Try.func114 rfl (fun args w => Try.call114 args w) (Nat.le_of_ble_eq_true rfl) [(0, .c (encTy (.mk 9 ts))), (1, .c (encVl (.mk 9 n a s args types code)))] rfl fun β hβ => ?_; have hf := Try.func114
          exact dq
        rw [decide_eq_true hl]
        have e3 : decide ((((encVls args).length : Nat) : Int) > 1) = false := decide_eq_false (by omega)
        have e4 : decide ((((encVls args).length : Nat) : Int) > 24) = false := decide_eq_false (by omega)
        obtain ⟨u, rfl⟩ := tlen1 (show ts.length = 1 by have : arity 9 = 1 := by decide
                                                        omega)
        rw [show (true && (true && vHasAll args (tyArg (.mk 9 [u]) 0))) = vHasAll args u from rfl]
        have hu : tBad u = false := tBads_mem hbs (by simp)
        have huk : tKeys u = true := tsKeys_mem hks (by simp)
        have hus : tySize u ≤ 1048577 := by have := tysSize_mem (l := [u]) (x := u) (by simp); omega
        have g1 : [u][0]? = some u := rfl
        obtain ⟨U, us⟩ := u
        refine QCalls.of Try.func114 rfl (fun args w => Try.call114 args w) (Nat.le_of_ble_eq_true rfl) [(0, .c (encTy (.mk 9 [.mk U us]))), (1, .c (encVl (.mk 9 n a s args types code)))] rfl fun β hβ => ?_; have hf := Try.func114
        repeat' (first | refine st ?_ | (refine AK.condS rfl (fun h => ?_) (fun h => ?_) <;> first | (cases h; done) | rw [h] | skip) | refine uQ hf rfl rfl ?_ | refine uC rfl h0 ?_ | ((first | refine AOps.splitT rfl rfl rfl asm (fun h => ?_) | refine AOps.splitF rfl rfl rfl asm (fun h => ?_) | refine AOps.split rfl rfl rfl (fun h => ?_) (fun h => ?_)) <;> (fail_if_success (cases h; done)) <;> rw [h]))
        refine AK.loopE (α := Nat) (fun i => i ≤ args.length ∧ vHasAll args (.mk U us) = vHasAll (args.drop i) (.mk U us)) (fun i => args.length - i)
          (fun i => [(124, .c (.int .i64 i)), (123, .c (.int .i64 (encVls args).length)), (122, .c (.sl 7 (encVls args))), (2, .ptr 2 0)])
          (fun _ => [(2, [.c (.int .i64 9), .c (.sl 2 (encTys [.mk U us]))])]) (fun _ => []) [2] 0
          ⟨by omega, rfl⟩ ⟨.inl rfl, .inl rfl, .inl rfl, .inl rfl, trivial⟩ ⟨rfl, trivial⟩ trivial rfl rfl rfl ?_
        rintro i ⟨hi, hinv⟩ ih
        rcases get_or args i hi with ⟨x, hx, hm⟩ | he
        · have hcc := vls_lt hx
          have hq := hin x hm (.mk U us) hu huk hus
          rw [drop_at hx, vHasAll_cons] at hinv
          generalize vHas x (.mk U us) = b at hq hinv
          obtain ⟨x1, x2, x3, x4, x5, x6, x7⟩ := x
          cases b with
          | false =>
            rw [hinv, Bool.false_and]
            clear ih hinv
            have tsr1 := vls_at hx
            have tsr2 := tys_at g1
            exact dq
          | true =>
            rw [Bool.true_and] at hinv
            repeat' (first | refine st ?_ | (refine AK.condS rfl (fun h => ?_) (fun h => ?_) <;> first | (cases h; done) | rw [h] | skip) | refine uQ hf rfl rfl ?_ | refine uI rfl (i) rfl (vls_at hx) rfl ?_ | refine uI rfl (0) rfl (tys_at g1) rfl ?_ | refine uC rfl hq ?_ | ((first | refine AOps.splitT rfl rfl rfl asm (fun h => ?_) | refine AOps.splitF rfl rfl rfl asm (fun h => ?_) | refine AOps.split rfl rfl rfl (fun h => ?_) (fun h => ?_)) <;> (fail_if_success (cases h; done)) <;> rw [h]))
            exact AK.again (ih (i + 1) ⟨lt_of_get hx, hinv⟩ (by have := lt_of_get hx; omega)) ⟨.inl (succ64 (by have := lt_of_get hx; omega)), .inl rfl, .inl rfl, .inl rfl, trivial⟩ ⟨rfl, trivial⟩ trivial rfl rfl rfl
        · have hcc := vls_end he
          have h9 : vHasAll args (.mk U us) = true := by rw [hinv, he, List.drop_length]; unfold vHasAll; rfl
          rw [h9]
          clear ih hinv h9
          exact dq
    by_cases c : k = 10
    · subst c
      rw [rb10]
      have h0 := bare_calls (.mk 10 n a s args types code) false false false args.length 0 false
      rw [← encVls_length] at h0 ⊢
      cases hB : bareB (.mk 10 n a s args types code) false false false (encVls args).length 0 false with
      | false =>
        rw [hB] at h0
        refine QCalls.of Try.func114 rfl (fun args w => Try.call114 args w) (Nat.le_of_ble_eq_true rfl) [(0, .c (encTy (.mk 10 ts))), (1, .c (encVl (.mk 10 n a s args types code)))] rfl fun β hβ => ?_; have hf := Try.func114
        exact dq
      | true =>
        rw [hB] at h0
        by_cases hl : (((encVls args).length : Nat) : Int) ≤ 24
        rotate_left
        · rw [decide_eq_false hl]
          have e3 : decide ((((encVls args).length : Nat) : Int) > 24) = true := decide_eq_true (by omega)
          refine QCalls.of Try.func114 rfl (fun args w => Try.call114 args w) (Nat.le_of_ble_eq_true rfl) [(0, .c (encTy (.mk 10 ts))), (1, .c (encVl (.mk 10 n a s args types code)))] rfl fun β hβ => ?_; have hf := Try.func114
          exact dq
        rw [decide_eq_true hl]
        have e3 : decide ((((encVls args).length : Nat) : Int) > 24) = false := decide_eq_false (by omega)
        obtain ⟨u, rfl⟩ := tlen1 (show ts.length = 1 by have : arity 10 = 1 := by decide
                                                        omega)
        rw [show (true && (true && vHasAll args (tyArg (.mk 10 [u]) 0))) = vHasAll args u from rfl]
        have hu : tBad u = false := tBads_mem hbs (by simp)
        have huk : tKeys u = true := tsKeys_mem hks (by simp)
        have hus : tySize u ≤ 1048577 := by have := tysSize_mem (l := [u]) (x := u) (by simp); omega
        have g1 : [u][0]? = some u := rfl
        obtain ⟨U, us⟩ := u
        refine QCalls.of Try.func114 rfl (fun args w => Try.call114 args w) (Nat.le_of_ble_eq_true rfl) [(0, .c (encTy (.mk 10 [.mk U us]))), (1, .c (encVl (.mk 10 n a s args types code)))] rfl fun β hβ => ?_; have hf := Try.func114
        repeat' (first | refine st ?_ | (refine AK.condS rfl (fun h => ?_) (fun h => ?_) <;> first | (cases h; done) | rw [h] | skip) | refine uQ hf rfl rfl ?_ | refine uC rfl h0 ?_ | ((first | refine AOps.splitT rfl rfl rfl asm (fun h => ?_) | refine AOps.splitF rfl rfl rfl asm (fun h => ?_) | refine AOps.split rfl rfl rfl (fun h => ?_) (fun h => ?_)) <;> (fail_if_success (cases h; done)) <;> rw [h]))
        refine AK.loopE (α := Nat) (fun i => i ≤ args.length ∧ vHasAll args (.mk U us) = vHasAll (args.drop i) (.mk U us)) (fun i => args.length - i)
          (fun i => [(124, .c (.int .i64 i)), (123, .c (.int .i64 (encVls args).length)), (122, .c (.sl 7 (encVls args))), (2, .ptr 2 0)])
          (fun _ => [(2, [.c (.int .i64 10), .c (.sl 2 (encTys [.mk U us]))])]) (fun _ => []) [2] 0
          ⟨by omega, rfl⟩ ⟨.inl rfl, .inl rfl, .inl rfl, .inl rfl, trivial⟩ ⟨rfl, trivial⟩ trivial rfl rfl rfl ?_
        rintro i ⟨hi, hinv⟩ ih
        rcases get_or args i hi with ⟨x, hx, hm⟩ | he
        · have hcc := vls_lt hx
          have hq := hin x hm (.mk U us) hu huk hus
          rw [drop_at hx, vHasAll_cons] at hinv
          generalize vHas x (.mk U us) = b at hq hinv
          obtain ⟨x1, x2, x3, x4, x5, x6, x7⟩ := x
          cases b with
          | false =>
            rw [hinv, Bool.false_and]
            clear ih hinv
            have tsr3 := vls_at hx
            have tsr4 := tys_at g1
            exact dq
          | true =>
            rw [Bool.true_and] at hinv
            repeat' (first | refine st ?_ | (refine AK.condS rfl (fun h => ?_) (fun h => ?_) <;> first | (cases h; done) | rw [h] | skip) | refine uQ hf rfl rfl ?_ | refine uI rfl (i) rfl (vls_at hx) rfl ?_ | refine uI rfl (0) rfl (tys_at g1) rfl ?_ | refine uC rfl hq ?_ | ((first | refine AOps.splitT rfl rfl rfl asm (fun h => ?_) | refine AOps.splitF rfl rfl rfl asm (fun h => ?_) | refine AOps.split rfl rfl rfl (fun h => ?_) (fun h => ?_)) <;> (fail_if_success (cases h; done)) <;> rw [h]))
            exact AK.again (ih (i + 1) ⟨lt_of_get hx, hinv⟩ (by have := lt_of_get hx; omega)) ⟨.inl (succ64 (by have := lt_of_get hx; omega)), .inl rfl, .inl rfl, .inl rfl, trivial⟩ ⟨rfl, trivial⟩ trivial rfl rfl rfl
        · have hcc := vls_end he
          have h9 : vHasAll args (.mk U us) = true := by rw [hinv, he, List.drop_length]; unfold vHasAll; rfl
          rw [h9]
          clear ih hinv h9
          exact dq
    by_cases c : k = 11
    · subst c
      rw [rb11]
      have h0 := bare_calls (.mk 11 n a s args types code) false false false 2 0 false
      cases hB : bareB (.mk 11 n a s args types code) false false false 2 0 false with
      | false =>
        rw [hB] at h0
        refine QCalls.of Try.func114 rfl (fun args w => Try.call114 args w) (Nat.le_of_ble_eq_true rfl) [(0, .c (encTy (.mk 11 ts))), (1, .c (encVl (.mk 11 n a s args types code)))] rfl fun β hβ => ?_; have hf := Try.func114
        exact dq
      | true =>
        rw [hB] at h0
        have hsh : args.length = 2 := by unfold bareB at hB; simp at hB; omega
        obtain ⟨x, y, rfl⟩ := len2 hsh
        obtain ⟨u, u', rfl⟩ := tlen2 (show ts.length = 2 by have : arity 11 = 2 := by decide
                                                            omega)
        clear hB
        have hu : tBad u = false := tBads_mem hbs (by simp)
        have hu' : tBad u' = false := tBads_mem hbs (by simp)
        have huk : tKeys u = true := tsKeys_mem hks (by simp)
        have huk' : tKeys u' = true := tsKeys_mem hks (by simp)
        have hus : tySize u ≤ 1048577 := by have := tysSize_mem (l := [u, u']) (x := u) (by simp); omega
        have hus' : tySize u' ≤ 1048577 := by have := tysSize_mem (l := [u, u']) (x := u') (by simp); omega
        have h1 := hin x (by simp) u hu huk hus
        have h2 := hin y (by simp) u' hu' huk' hus'
        have g1 : [u, u'][0]? = some u := rfl
        have g2 : [u, u'][1]? = some u' := rfl
        have g3 : [x, y][0]? = some x := rfl
        have g4 : [x, y][1]? = some y := rfl
        rw [show (true && vHasRow [x, y] [u, u']) = (vHas x u && vHas y u') from by unfold vHasRow; unfold vHasRow; unfold vHasRow; simp]
        generalize vHas x u = b1 at h1
        generalize vHas y u' = b2 at h2
        obtain ⟨U, us⟩ := u
        obtain ⟨U', us'⟩ := u'
        obtain ⟨x1, x2, x3, x4, x5, x6, x7⟩ := x
        obtain ⟨y1, y2, y3, y4, y5, y6, y7⟩ := y
        refine QCalls.of Try.func114 rfl (fun args w => Try.call114 args w) (Nat.le_of_ble_eq_true rfl) [(0, .c (encTy (.mk 11 [.mk U us, .mk U' us']))), (1, .c (encVl (.mk 11 n a s [.mk x1 x2 x3 x4 x5 x6 x7, .mk y1 y2 y3 y4 y5 y6 y7] types code)))] rfl fun β hβ => ?_; have hf := Try.func114
        repeat' (first | refine st ?_ | (refine AK.condS rfl (fun h => ?_) (fun h => ?_) <;> first | (cases h; done) | rw [h] | skip) | refine uQ hf rfl rfl ?_ | refine uC rfl h0 ?_ | refine uC rfl h1 ?_ | refine uC rfl h2 ?_ | refine uI rfl (0) rfl (tys_at g1) rfl ?_ | refine uI rfl (1) rfl (tys_at g2) rfl ?_ | refine uI rfl (0) rfl (vls_at g3) rfl ?_ | refine uI rfl (1) rfl (vls_at g4) rfl ?_ | ((first | refine AOps.splitT rfl rfl rfl asm (fun h => ?_) | refine AOps.splitF rfl rfl rfl asm (fun h => ?_) | refine AOps.split rfl rfl rfl (fun h => ?_) (fun h => ?_)) <;> (fail_if_success (cases h; done)) <;> rw [h]))
        all_goals
          show (_ : CV) = _
          clear hf hin h0 h1 h2
          simp_all
    by_cases c : k = 12
    · subst c
      rw [rb12]
      have h0 := bare_calls (.mk 12 n a s args types code) true false false 1 0 false
      cases hB : bareB (.mk 12 n a s args types code) true false false 1 0 false with
      | false =>
        rw [hB] at h0
        refine QCalls.of Try.func114 rfl (fun args w => Try.call114 args w) (Nat.le_of_ble_eq_true rfl) [(0, .c (encTy (.mk 12 ts))), (1, .c (encVl (.mk 12 n a s args types code)))] rfl fun β hβ => ?_; have hf := Try.func114
        exact dq
      | true =>
        rw [hB] at h0
        have hsh : args.length = 1 := by unfold bareB at hB; simp at hB; omega
        obtain ⟨x, rfl⟩ := len1 hsh
        obtain ⟨u, u', rfl⟩ := tlen2 (show ts.length = 2 by have : arity 12 = 2 := by decide
                                                            omega)
        clear hB
        have hu : tBad u = false := tBads_mem hbs (by simp)
        have hu' : tBad u' = false := tBads_mem hbs (by simp)
        have huk : tKeys u = true := tsKeys_mem hks (by simp)
        have huk' : tKeys u' = true := tsKeys_mem hks (by simp)
        have hus : tySize u ≤ 1048577 := by have := tysSize_mem (l := [u, u']) (x := u) (by simp); omega
        have hus' : tySize u' ≤ 1048577 := by have := tysSize_mem (l := [u, u']) (x := u') (by simp); omega
        have h1 := hin x (by simp) u hu huk hus
        have h2 := hin x (by simp) u' hu' huk' hus'
        have g1 : [u, u'][0]? = some u := rfl
        have g2 : [u, u'][1]? = some u' := rfl
        have g3 : [x][0]? = some x := rfl
        have ev : ∀ w, vHasAll [x] w = vHas x w := fun w => by unfold vHasAll; unfold vHasAll; simp
        rw [ev]
        clear ev
        by_cases n0 : n = 0
        · subst n0
          show QCalls _ _ _ _ (.bool (vHas x u))
          clear h2
          generalize vHas x u = b1 at h1
          obtain ⟨U, us⟩ := u
          obtain ⟨x1, x2, x3, x4, x5, x6, x7⟩ := x
          refine QCalls.of Try.func114 rfl (fun args w => Try.call114 args w) (Nat.le_of_ble_eq_true rfl) [(0, .c (encTy (.mk 12 [.mk U us, u']))), (1, .c (encVl (.mk 12 0 a s [.mk x1 x2 x3 x4 x5 x6 x7] types code)))] rfl fun β hβ => ?_; have hf := Try.func114
          have tsr5 := tys_at g1
          have tsr6 := vls_at g3
          exact dq
        by_cases n1 : n = 1
        · subst n1
          show QCalls _ _ _ _ (.bool (vHas x u'))
          clear h1
          generalize vHas x u' = b1 at h2
          obtain ⟨U, us⟩ := u'
          obtain ⟨x1, x2, x3, x4, x5, x6, x7⟩ := x
          refine QCalls.of Try.func114 rfl (fun args w => Try.call114 args w) (Nat.le_of_ble_eq_true rfl) [(0, .c (encTy (.mk 12 [u, .mk U us]))), (1, .c (encVl (.mk 12 1 a s [.mk x1 x2 x3 x4 x5 x6 x7] types code)))] rfl fun β hβ => ?_; have hf := Try.func114
          have tsr7 := tys_at g2
          have tsr8 := vls_at g3
          exact dq
        · have e5 : (n == 0) = false := by simpa using n0
          have e6 : (n == 1) = false := by simpa using n1
          rw [e5, e6]
          refine QCalls.of Try.func114 rfl (fun args w => Try.call114 args w) (Nat.le_of_ble_eq_true rfl) [(0, .c (encTy (.mk 12 [u, u']))), (1, .c (encVl (.mk 12 n a s [x] types code)))] rfl fun β hβ => ?_; have hf := Try.func114
          exact dq
    by_cases c : k = 13
    · subst c
      rw [rb13]
      have h0 := bare_calls (.mk 13 n a s args types code) false false false args.length 0 false
      rw [← mapB_none]
      rw [← encVls_length] at h0 ⊢
      cases hB : bareB (.mk 13 n a s args types code) false false false (encVls args).length 0 false with
      | false =>
        rw [hB] at h0
        refine QCalls.of Try.func114 rfl (fun args w => Try.call114 args w) (Nat.le_of_ble_eq_true rfl) [(0, .c (encTy (.mk 13 ts))), (1, .c (encVl (.mk 13 n a s args types code)))] rfl fun β hβ => ?_; have hf := Try.func114
        exact dq
      | true =>
      rw [hB] at h0
      by_cases hl : (((encVls args).length : Nat) : Int) ≤ 24
      rotate_left
      · rw [decide_eq_false hl]
        have e3 : decide ((((encVls args).length : Nat) : Int) > 24) = true := decide_eq_true (by omega)
        refine QCalls.of Try.func114 rfl (fun args w => Try.call114 args w) (Nat.le_of_ble_eq_true rfl) [(0, .c (encTy (.mk 13 ts))), (1, .c (encVl (.mk 13 n a s args types code)))] rfl fun β hβ => ?_; have hf := Try.func114
        exact dq
      rw [decide_eq_true hl, Bool.true_and, Bool.true_and]
      have e3 : decide ((((encVls args).length : Nat) : Int) > 24) = false := decide_eq_false (by omega)
      obtain ⟨u, u', rfl⟩ := tlen2 (show ts.length = 2 by have : arity 13 = 2 := by decide
                                                          omega)
      have hu : tBad u = false := tBads_mem hbs (by simp)
      have hcp : tComp u = true := by simp [tKeys, headComp] at hky; exact hky.1
      have hpb : tBad (.mk 11 [u, u']) = false := by
        simp only [tBad, Bool.or_eq_false_iff]; exact ⟨by show decide (arity 11 ≠ 2) = false; decide, hbs⟩
      have hpk : tKeys (.mk 11 [u, u']) = true := by simp only [tKeys, hks, Bool.and_true]; rw [if_neg (by decide)]
      have hps : tySize (.mk 11 [u, u']) ≤ 1048577 := by simp only [tySize]; omega
      refine QCalls.of Try.func114 rfl (fun args w => Try.call114 args w) (Nat.le_of_ble_eq_true rfl) [(0, .c (encTy (.mk 13 [u, u']))), (1, .c (encVl (.mk 13 n a s args types code)))] rfl fun β hβ => ?_; have hf := Try.func114
      repeat' (first | refine st ?_ | (refine AK.condS rfl (fun h => ?_) (fun h => ?_) <;> first | (cases h; done) | rw [h] | skip) | refine uQ hf rfl rfl ?_ | refine uC rfl h0 ?_ | ((first | refine AOps.splitT rfl rfl rfl asm (fun h => ?_) | refine AOps.splitF rfl rfl rfl asm (fun h => ?_) | refine AOps.split rfl rfl rfl (fun h => ?_) (fun h => ?_)) <;> (fail_if_success (cases h; done)) <;> rw [h]))
      refine AK.loopE (α := Nat) (fun i => i ≤ args.length ∧ mapB (.mk 11 [u, u']) none args = mapB (.mk 11 [u, u']) (pre args i) (args.drop i) ∧ ∀ p, pre args i = some p → p ∈ args ∧ vHas p (.mk 11 [u, u']) = true) (fun i => args.length - i)
        (fun i => [(202, .c (.int .i64 i)), (201, .c (.int .i64 (encVls args).length)), (200, .c (.sl 7 (encVls args))), (2, .ptr 2 0), (3, .ptr 3 0)])
        (fun _ => [(2, [.c (.int .i64 13), .c (.sl 2 (encTys [u, u']))]), (3, [.c (.int .i64 13), .c (.int .i64 n), .c (.int .i64 a), .c (.str s), .c (.sl 7 (encVls args)), .c (.sl 2 (encTys types)), .c (.sl 5 (encNds code))])]) (fun _ => []) [2, 3] 0
        ⟨by omega, rfl, fun p h => by simp [pre] at h⟩ ⟨.inl rfl, .inl rfl, .inl rfl, .inl rfl, .inl rfl, trivial⟩ ⟨rfl, rfl, trivial⟩ trivial rfl rfl rfl ?_
      rintro i ⟨hi, hinv, hpre⟩ ih
      rcases get_or args i hi with ⟨x, hx, hm⟩ | he
      · have hc := vls_lt hx
        have hq := hin x hm _ hpb hpk hps
        have hlt := lt_of_get hx
        rw [drop_at hx] at hinv
        have hnx : pre args (i + 1) = some x := by simp only [pre, Nat.add_one_ne_zero, if_false, Nat.add_sub_cancel]; exact hx
        by_cases hxh : vHas x (.mk 11 [u, u']) = true
        rotate_left
        · have hxf : vHas x (.mk 11 [u, u']) = false := by simpa using hxh
          rw [hxf] at hq
          have h0 : mapB (.mk 11 [u, u']) none args = false := by
            rw [hinv]; cases pre args i <;> simp only [mapB_some_cons, mapB_none_cons, hxf, Bool.false_and]
          rw [h0]
          clear hinv h0
          obtain ⟨x1, x2, x3, x4, x5, x6, x7⟩ := x
          have tsr9 := vls_at hx
          exact dq
        · rw [hxh] at hq
          obtain ⟨x2, x3, x4, x6, x7, xk, xv, rfl, hxk, hxv⟩ := has11 hxh
          by_cases i0 : i = 0
          · subst i0
            have hinv' : mapB (.mk 11 [u, u']) none args = mapB (.mk 11 [u, u']) (some (.mk 11 x2 x3 x4 [xk, xv] x6 x7)) (args.drop 1) := by
              rw [hinv]; simp only [pre, if_true, mapB_none_cons, hxh, Bool.true_and]
            repeat' (first | refine st ?_ | (refine AK.condS rfl (fun h => ?_) (fun h => ?_) <;> first | (cases h; done) | rw [h] | skip) | refine uQ hf rfl rfl ?_ | refine uI rfl (0) rfl (vls_at hx) rfl ?_ | refine uC rfl hq ?_ | ((first | refine AOps.splitT rfl rfl rfl asm (fun h => ?_) | refine AOps.splitF rfl rfl rfl asm (fun h => ?_) | refine AOps.split rfl rfl rfl (fun h => ?_) (fun h => ?_)) <;> (fail_if_success (cases h; done)) <;> rw [h]))
            refine AK.again (ih 1 ⟨hlt, ?_, ?_⟩ (by omega)) ⟨.inl rfl, .inl rfl, .inl rfl, .inl rfl, .inl rfl, trivial⟩ ⟨rfl, rfl, trivial⟩ trivial rfl rfl rfl
            · rw [hinv', hnx]
            · intro p hp; rw [hnx] at hp; cases hp; exact ⟨hm, hxh⟩
          · have ei : decide (((i : Nat) : Int) > 0) = true := by simp; omega
            obtain ⟨p, hpp⟩ : ∃ p, args[i - 1]? = some p := ⟨args[i - 1]'(by omega), by simp⟩
            have hpi : pre args i = some p := by simp only [pre, if_neg i0]; exact hpp
            obtain ⟨hpm, hph⟩ := hpre p hpi
            have hws : IntKind.i64.wrap (((i : Nat) : Int) - 1) = ((i - 1 : Nat) : Int) := by rw [w64 (by omega) (by omega)]; omega
            have hpsz := vlsSize_mem hpm
            obtain ⟨p2, p3, p4, p6, p7, pk, pv, rfl, hpk, hpv⟩ := has11 hph
            have hcq := Order_calls pk xk u hcp hu hpk hxk (by simp only [vlSize, vlsSize] at hpsz; omega)
            rw [rOrd_eq pk xk u hcp hu hpk hxk] at hcq
            have hmb : mapB (.mk 11 [u, u']) none args = (decide (vCmp pk xk < 0) && mapB (.mk 11 [u, u']) (some (.mk 11 x2 x3 x4 [xk, xv] x6 x7)) (args.drop (i + 1))) := by
              rw [hinv, hpi]
              rw [mapB_some_cons]
              rw [hxh, Bool.true_and]; rfl
            have g1 : [pk, pv][0]? = some pk := rfl
            have g2 : [xk, xv][0]? = some xk := rfl
            by_cases hcm : vCmp pk xk < 0
            · have ec : decide (vCmp pk xk ≥ 0) = false := by simp; omega
              rw [show decide (vCmp pk xk < 0) = true from by simpa using hcm, Bool.true_and] at hmb
              obtain ⟨a1, a2, a3, a4, a5, a6, a7⟩ := xk
              obtain ⟨b1, b2, b3, b4, b5, b6, b7⟩ := pk
              repeat' (first | refine st ?_ | (refine AK.condS rfl (fun h => ?_) (fun h => ?_) <;> first | (cases h; done) | rw [h] | skip) | refine uQ hf rfl rfl ?_ | refine uI rfl (i) rfl (vls_at hx) rfl ?_ | refine uC rfl hq ?_ | refine AOps.index Try.hX rfl rfl rfl rfl rfl rfl rfl rfl rfl rfl (i - 1) hws (vls_at hpp) rfl ?_ | refine uI rfl (0) rfl (vls_at g1) rfl ?_ | refine uI rfl (0) rfl (vls_at g2) rfl ?_ | refine uC rfl hcq ?_ | ((first | refine AOps.splitT rfl rfl rfl asm (fun h => ?_) | refine AOps.splitF rfl rfl rfl asm (fun h => ?_) | refine AOps.split rfl rfl rfl (fun h => ?_) (fun h => ?_)) <;> (fail_if_success (cases h; done)) <;> rw [h]))
              refine AK.again (ih (i + 1) ⟨hlt, ?_, ?_⟩ (by omega)) ⟨.inl (succ64 (by omega)), .inl rfl, .inl rfl, .inl rfl, .inl rfl, trivial⟩ ⟨rfl, rfl, trivial⟩ trivial rfl rfl rfl
              · rw [hmb, hnx]
              · intro p hp; rw [hnx] at hp; cases hp; exact ⟨hm, hxh⟩
            · have ec : decide (vCmp pk xk ≥ 0) = true := by simp; omega
              rw [show decide (vCmp pk xk < 0) = false from by simpa using hcm, Bool.false_and] at hmb
              rw [hmb]
              clear hmb hinv
              obtain ⟨a1, a2, a3, a4, a5, a6, a7⟩ := xk
              obtain ⟨b1, b2, b3, b4, b5, b6, b7⟩ := pk
              repeat' (first | refine st ?_ | (refine AK.condS rfl (fun h => ?_) (fun h => ?_) <;> first | (cases h; done) | rw [h] | skip) | refine uQ hf rfl rfl ?_ | refine uI rfl (i) rfl (vls_at hx) rfl ?_ | refine uC rfl hq ?_ | refine AOps.index Try.hX rfl rfl rfl rfl rfl rfl rfl rfl rfl rfl (i - 1) hws (vls_at hpp) rfl ?_ | refine uI rfl (0) rfl (vls_at g1) rfl ?_ | refine uI rfl (0) rfl (vls_at g2) rfl ?_ | refine uC rfl hcq ?_ | ((first | refine AOps.splitT rfl rfl rfl asm (fun h => ?_) | refine AOps.splitF rfl rfl rfl asm (fun h => ?_) | refine AOps.split rfl rfl rfl (fun h => ?_) (fun h => ?_)) <;> (fail_if_success (cases h; done)) <;> rw [h]))
              all_goals rfl
      · have hc := vls_end he
        have h0 : mapB (.mk 11 [u, u']) none args = true := by
          rw [hinv, he, List.drop_length]; exact mapB_nil _ _
        rw [h0]
        clear ih
        exact dq
    by_cases c : k = 14
    · subst c
      have hl2 : ts.length = 2 := by
        have : arity 14 = 2 := by decide
        omega
      rw [rb14 _ _ _ _ _ _ _ hl2]
      have h0 := bare_calls (.mk 14 n a s args types code) false false false 0 2 true
      have h1 := SameTypes_calls types ts (by omega)
      generalize bareB (.mk 14 n a s args types code) false false false 0 2 true = B at h0
      generalize tysSame types ts = b1 at h1
      refine QCalls.of Try.func114 rfl (fun args w => Try.call114 args w) (Nat.le_of_ble_eq_true rfl) [(0, .c (encTy (.mk 14 ts))), (1, .c (encVl (.mk 14 n a s args types code)))] rfl fun β hβ => ?_; have hf := Try.func114
      repeat' (first | refine st ?_ | (refine AK.condS rfl (fun h => ?_) (fun h => ?_) <;> first | (cases h; done) | rw [h] | skip) | refine uQ hf rfl rfl ?_ | refine uC rfl h0 ?_ | refine uC rfl h1 ?_ | ((first | refine AOps.splitT rfl rfl rfl asm (fun h => ?_) | refine AOps.splitF rfl rfl rfl asm (fun h => ?_) | refine AOps.split rfl rfl rfl (fun h => ?_) (fun h => ?_)) <;> (fail_if_success (cases h; done)) <;> rw [h]))
      all_goals
        show (_ : CV) = _
        clear hf hin h0 h1
        simp_all
    have hk : k = 15 := by have := arity_in har; omega
    subst hk
    rw [rb15]
    have h0 := bare_calls (.mk 15 n a s args types code) true true false 1 0 false
    have h1 := natural_calls n
    have h2 := isAddress_calls a
    cases hB : bareB (.mk 15 n a s args types code) true true false 1 0 false with
    | false =>
      rw [hB] at h0
      refine QCalls.of Try.func114 rfl (fun args w => Try.call114 args w) (Nat.le_of_ble_eq_true rfl) [(0, .c (encTy (.mk 15 ts))), (1, .c (encVl (.mk 15 n a s args types code)))] rfl fun β hβ => ?_; have hf := Try.func114
      exact dq
    | true =>
      rw [hB] at h0
      have hsh : args.length = 1 := by unfold bareB at hB; simp at hB; omega
      obtain ⟨x, rfl⟩ := len1 hsh
      obtain ⟨u, rfl⟩ := tlen1 (show ts.length = 1 by have : arity 15 = 1 := by decide
                                                      omega)
      clear hB
      have hu : tBad u = false := tBads_mem hbs (by simp)
      have huk : tKeys u = true := tsKeys_mem hks (by simp)
      have hus : tySize u ≤ 1048577 := by have := tysSize_mem (l := [u]) (x := u) (by simp); omega
      have h3 := hin x (by simp) u hu huk hus
      have g1 : [u][0]? = some u := rfl
      have g3 : [x][0]? = some x := rfl
      rw [show vHasAll [x] (tyArg (.mk 15 [u]) 0) = vHas x u from by unfold vHasAll; unfold vHasAll; simp [tyArg, tyArgs]]
      generalize vHas x u = b1 at h3
      obtain ⟨U, us⟩ := u
      obtain ⟨x1, x2, x3, x4, x5, x6, x7⟩ := x
      refine QCalls.of Try.func114 rfl (fun args w => Try.call114 args w) (Nat.le_of_ble_eq_true rfl) [(0, .c (encTy (.mk 15 [.mk U us]))), (1, .c (encVl (.mk 15 n a s [.mk x1 x2 x3 x4 x5 x6 x7] types code)))] rfl fun β hβ => ?_; have hf := Try.func114
      repeat' (first | refine st ?_ | (refine AK.condS rfl (fun h => ?_) (fun h => ?_) <;> first | (cases h; done) | rw [h] | skip) | refine uQ hf rfl rfl ?_ | refine uC rfl h0 ?_ | refine uC rfl h1 ?_ | refine uC rfl h2 ?_ | refine uC rfl h3 ?_ | refine uI rfl (0) rfl (tys_at g1) rfl ?_ | refine uI rfl (0) rfl (vls_at g3) rfl ?_ | ((first | refine AOps.splitT rfl rfl rfl asm (fun h => ?_) | refine AOps.splitF rfl rfl rfl asm (fun h => ?_) | refine AOps.split rfl rfl rfl (fun h => ?_) (fun h => ?_)) <;> (fail_if_success (cases h; done)) <;> rw [h]))
      all_goals
        show (_ : CV) = _
        clear hf hin h0 h1 h2 h3
        refine congrArg CV.bool ?_
        cases b1 <;> (try simp_all) <;> (try omega)
termination_by v => SizeOf.sizeOf v
decreasing_by
  have := List.sizeOf_lt_of_mem hx
  simp at this ⊢; omega

end Go.Proofs

set_option linter.unusedVariables false
set_option linter.unusedSimpArgs false
set_option maxRecDepth 100000
namespace Go.Proofs
open Go.Abs
theorem wrap_rng (z : Int) : I64 (IntKind.i64.wrap z) := by rw [IntKind.wrap_i64]; constructor <;> omega
attribute [local irreducible] AK AOps QCalls ECalls vNode vNodes vElts tHas vHas tGoodN tDecode bytesN vPar tGood tPack tPar tUnpack tVNode tVPack tTold vSame ndSame tEncode rNode

end Go.Proofs

set_option linter.unusedVariables false
set_option linter.unusedSimpArgs false
set_option maxRecDepth 100000
namespace Go.Proofs
open Go.Abs
theorem wrong1_rng {k n p : Int} {s : List UInt8} {m : Nat} {d : Int} (h : wrong1 k n p s m d = 0) : I64 k ∧ I64 n ∧ I64 p := by
  unfold wrong1 at h
  split at h
  · simp at h
  split at h
  · simp at h
  split at h
  · simp at h
  split at h
  · simp at h
  rename_i h1 h2 h3 h4
  have hp : p = 0 ∨ 1 ≤ p ∧ p ≤ 95 := by
    by_cases hk : k = 2
    · right
      have : primP p = true := by
        cases hq : primP p with
        | true => rfl
        | false => exact absurd (.inr (.inr ⟨hk, hq⟩)) h2
      simp only [primP, decide_eq_true_eq] at this
      omega
    · left
      rcases Int.decEq p 0 with h | h
      · exact absurd (.inr (.inl ⟨hk, h⟩)) h3
      · exact h
  have hm : maxI = 1152921504606846976 := rfl
  refine ⟨⟨?_, ?_⟩, ⟨?_, ?_⟩, ⟨?_, ?_⟩⟩ <;> omega
mutual
theorem wrong_wf : ∀ (n : Nd) (d : Int), wrong n d = 0 → ndWf n
  | .mk k n p s args, d, h => by
    have ih := wrongs_wf args (d + 1)
    simp only [wrong] at h
    by_cases h1 : wrong1 k n p s args.length d = 0
    · rw [if_pos h1] at h
      obtain ⟨g1, g2, g3⟩ := wrong1_rng h1
      exact ⟨g1, g2, g3, ih h⟩
    · rw [if_neg h1] at h; exact absurd h h1
theorem wrongs_wf : ∀ (l : List Nd) (d : Int), wrongs l d = 0 → ndsWf l
  | [], _, _ => trivial
  | x :: l, d, h => by
    simp only [wrongs] at h
    by_cases h1 : wrong x d = 0
    · rw [if_pos h1] at h
      exact ⟨wrong_wf x d h1, wrongs_wf l d h⟩
    · rw [if_neg h1] at h; exact absurd h h1
end
theorem good_wf {n : Nd} (h : tGoodN n = 0) : ndWf n := wrong_wf n 1 (tGoodN_zero.1 h).1
theorem vl0_wf : vlWf vl0 := ⟨⟨by decide, by decide⟩, ⟨by decide, by decide⟩, ⟨by decide, by decide⟩, trivial, trivial, trivial⟩
theorem gN_rng {T N P : Int} (h : I64 N) : I64 (gN T N P) := by
  unfold gN
  repeat' split
  · exact wrap_rng _
  · exact wrap_rng _
  · exact h
mutual
theorem gGuess_wf : ∀ (n : Nd) (t : Ty), tBad t = false → ndWf n → vlWf (gGuess n t)
  | .mk kind N P S args, t, hb, hw => by
    simp only [ndWf] at hw
    have ih := gRow_wf args
    by_cases hok : gOk (tyT t) (gN (tyT t) N P) args.length = true
    · simp only [gGuess, if_pos hok, vlWf]
      obtain ⟨har, hbs⟩ := tBad_args hb
      have hr := arity_rng har
      exact ⟨⟨by omega, by omega⟩, gN_rng hw.2.1, ⟨by decide, by decide⟩, ih _ _ _ _ (fun j hj => by rw [Nat.zero_add]; exact gKid_bad hb hok hj) hw.2.2.2, trivial, trivial⟩
    · simp only [gGuess, if_neg hok]; exact vl0_wf
theorem gRow_wf : ∀ (l : List Nd) (T vn : Int) (ts : List Ty) (i : Nat), (∀ j, j < l.length → tBad (gKid T vn ts (i + j)) = false) → ndsWf l → vlsWf (gRow l T vn ts i)
  | [], _, _, _, _, _, _ => by simp [gRow, vlsWf]
  | x :: l, T, vn, ts, i, hb, h => by
    simp only [ndsWf] at h
    have h1 := gGuess_wf x _ (hb 0 (by simp)) h.1
    have h2 := gRow_wf l T vn ts (i + 1) (fun j hj => by have := hb (j + 1) (by simpa using hj); rwa [show i + 1 + j = i + (j + 1) from by omega]) h.2
    rw [Nat.add_zero] at h1
    simp only [gRow, vlsWf]
    exact ⟨h1, h2⟩
end
mutual
theorem gGuess_size : ∀ (n : Nd) (t : Ty), vlSize (gGuess n t) ≤ ndSize n
  | .mk kind N P S args, t => by
    have ih := gRow_size args (tyT t) (gN (tyT t) N P) (tyArgs t) 0
    by_cases hok : gOk (tyT t) (gN (tyT t) N P) args.length = true
    · simp only [gGuess, if_pos hok, vlSize, ndSize, tysSize, ndsSize]; omega
    · simp only [gGuess, if_neg hok, ndSize, vl0, vlSize, vlsSize, tysSize, ndsSize, List.length_nil]; omega
theorem gRow_size : ∀ (l : List Nd) (T vn : Int) (ts : List Ty) (i : Nat), vlsSize (gRow l T vn ts i) ≤ ndsSize l
  | [], _, _, _, _ => by simp [gRow, vlsSize]
  | x :: l, T, vn, ts, i => by
    have h1 := gGuess_size x (gKid T vn ts i)
    have h2 := gRow_size l T vn ts (i + 1)
    simp only [gRow, vlsSize, ndsSize]; omega
end
theorem tBad_good {t : Ty} (h : tGood t = true) : tBad t = false := by
  cases hb : tBad t with
  | false => rfl
  | true =>
    have h1 := bad_good t 24 300 hb
    rw [rGood_top, h] at h1; cases h1
attribute [local irreducible] AK AOps QCalls ECalls vNode vNodes vElts tHas vHas tGoodN tDecode bytesN vPar tGood tPack tPar tUnpack tVNode tVPack tTold vSame ndSame tEncode rNode gGuess

set_option maxHeartbeats 0 in
theorem ParseValue_calls (t : Ty) (n : Nd) (hw : ndWf n) (ht : tySize t ≤ 1048577) (hn : ndSize n ≤ 1048577) : QCalls Try.prog Try.X 82 [encTy t, encNd n] (.tup [encVl (tPar t n).1, .int .i64 (tPar t n).2]) := by
  have h1 := GoodType_calls t ht
  have h2 := GoodNode_calls n hw hn
  cases g : tGood t with
  | false =>
    rw [g] at h1
    rw [show tPar t n = (vl0, 1) from by unfold tPar; rw [if_neg (by rw [g]; simp)]]
    obtain ⟨T, ts⟩ := t
    obtain ⟨x1, x2, x3, x4, x5⟩ := n
    refine QCalls.of Try.func82 rfl (fun args w => Try.call82 args w) (Nat.le_of_ble_eq_true rfl) [(0, .c (encTy (.mk T ts))), (1, .c (encNd (.mk x1 x2 x3 x4 x5)))] rfl fun β hβ => ?_; have hf := Try.func82
    exact dq
  | true =>
  rw [g] at h1
  by_cases hg : tGoodN n = 0
  rotate_left
  · rw [show tPar t n = (vl0, 1) from by unfold tPar; rw [if_neg (fun h => hg h.2.1)]]
    have e1 : (tGoodN n != 0) = true := by simpa using hg
    generalize tGoodN n = z at h2 e1
    obtain ⟨T, ts⟩ := t
    obtain ⟨x1, x2, x3, x4, x5⟩ := n
    refine QCalls.of Try.func82 rfl (fun args w => Try.call82 args w) (Nat.le_of_ble_eq_true rfl) [(0, .c (encTy (.mk T ts))), (1, .c (encNd (.mk x1 x2 x3 x4 x5)))] rfl fun β hβ => ?_; have hf := Try.func82
    exact dq
  rw [hg] at h2
  have hb := tBad_good g
  rw [tPar_guess g hg hb]
  have hgs := gGuess_size n t
  have hgw := gGuess_wf n t hb hw
  have h3 := guess_calls n t hb hn
  have h4 := rhas_calls (gGuess n t) t hb (tGood_keys g) hgw (by omega) ht
  cases hv : vHas (gGuess n t) t with
  | false =>
    rw [if_neg (by simp)]
    rw [hv] at h4
    clear hgs hgw hv
    generalize gGuess n t = v at h3 h4
    obtain ⟨T, ts⟩ := t
    obtain ⟨x1, x2, x3, x4, x5⟩ := n
    obtain ⟨y1, y2, y3, y4, y5, y6, y7⟩ := v
    refine QCalls.of Try.func82 rfl (fun args w => Try.call82 args w) (Nat.le_of_ble_eq_true rfl) [(0, .c (encTy (.mk T ts))), (1, .c (encNd (.mk x1 x2 x3 x4 x5)))] rfl fun β hβ => ?_; have hf := Try.func82
    exact dq
  | true =>
  rw [hv] at h4
  have h5 := dataNode_calls (gGuess n t) (by omega)
  have hns := vNode_size (gGuess n t)
  have h6 := SameNode_calls (rNode (gGuess n t)) n (by rw [rNode_has _ t hb hv]; omega)
  by_cases hq : rNode (gGuess n t) = n
  · rw [if_pos ⟨rfl, (ndSame_iff _ _).2 hq⟩]
    rw [hq] at h5 h6
    rw [(ndSame_iff _ _).2 rfl] at h6
    clear hgs hgw hv hns hq
    generalize gGuess n t = v at h3 h4 h5
    obtain ⟨T, ts⟩ := t
    obtain ⟨x1, x2, x3, x4, x5⟩ := n
    obtain ⟨y1, y2, y3, y4, y5, y6, y7⟩ := v
    refine QCalls.of Try.func82 rfl (fun args w => Try.call82 args w) (Nat.le_of_ble_eq_true rfl) [(0, .c (encTy (.mk T ts))), (1, .c (encNd (.mk x1 x2 x3 x4 x5)))] rfl fun β hβ => ?_; have hf := Try.func82
    exact dq
  · rw [if_neg (fun h => hq ((ndSame_iff _ _).1 h.2))]
    rw [show ndSame (rNode (gGuess n t)) n = false from by
      cases hs : ndSame (rNode (gGuess n t)) n with
      | false => rfl
      | true => exact absurd ((ndSame_iff _ _).1 hs) hq] at h6
    clear hgs hgw hv hns hq
    generalize rNode (gGuess n t) = r at h5 h6
    generalize gGuess n t = v at h3 h4 h5
    obtain ⟨T, ts⟩ := t
    obtain ⟨x1, x2, x3, x4, x5⟩ := n
    obtain ⟨y1, y2, y3, y4, y5, y6, y7⟩ := v
    obtain ⟨r1, r2, r3, r4, r5⟩ := r
    refine QCalls.of Try.func82 rfl (fun args w => Try.call82 args w) (Nat.le_of_ble_eq_true rfl) [(0, .c (encTy (.mk T ts))), (1, .c (encNd (.mk x1 x2 x3 x4 x5)))] rfl fun β hβ => ?_; have hf := Try.func82
    exact dq

end Go.Proofs
