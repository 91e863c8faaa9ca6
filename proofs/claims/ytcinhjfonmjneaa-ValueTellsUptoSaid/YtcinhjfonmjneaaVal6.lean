/- What SameValue, bare, Order and has of touchstoneref answer. -/
import Derived.Test.YtcinhjfonmjneaaVal2
import Derived.Test.YtcinhjfonmjneaaVRef
import Derived.Test.YtcinhjfonmjneaaRefNum
import Derived.Test.YtcinhjfonmjneaaKind11
set_option linter.unusedVariables false
set_option linter.unusedSimpArgs false
set_option maxRecDepth 100000
namespace Go.Proofs
open Go.Abs
theorem hasZ_get : ∀ {l : List Vl} {ts : List Ty} {i : Nat} {x : Vl}, hasZ l ts → l[i]? = some x → ∃ t, ts[i]? = some t ∧ vHas x t = true ∧ tComp t = true ∧ tBad t = false
  | [], _, _, _, _, h => by simp at h
  | x :: l, [], _, _, h, _ => h.elim
  | x :: l, t :: ts, 0, y, h, e => by
    simp at e; subst e
    exact ⟨t, rfl, h.1, h.2.1, h.2.2.1⟩
  | x :: l, t :: ts, i + 1, y, h, e => by
    simp only [List.getElem?_cons_succ] at e ⊢
    exact hasZ_get h.2.2.2 e
theorem rOrds_cons (x y : Vl) (l r : List Vl) : rOrds (x :: l) (y :: r) = if rOrd x y = 0 then rOrds l r else rOrd x y := rfl
theorem rOrds_nil (r : List Vl) : rOrds [] r = 0 := by cases r <;> rfl
/-- What two values are ordered by first. -/
def ordN (k n : Int) (args : List Vl) : Int := if k = 9 then (args.length : Int) else n
theorem rOrd_mk (k n a : Int) (s : List UInt8) (args : List Vl) (types : List Ty) (code : List Nd) (k' n' a' : Int) (s' : List UInt8) (args' : List Vl) (types' : List Ty) (code' : List Nd) :
    rOrd (.mk k n a s args types code) (.mk k' n' a' s' args' types' code') = if ordN k n args < ordN k n' args' ∨ Op.bytesLess s s' = true then -1 else if ordN k n args > ordN k n' args' ∨ Op.bytesLess s' s = true then 1 else rOrds args args' := rfl
/-- Two values of a type that can be compared, and even so far, are of as many parts, each one of a type. -/
theorem ord_args {k n a : Int} {s : List UInt8} {args : List Vl} {types : List Ty} {code : List Nd} {k' n' a' : Int} {s' : List UInt8} {args' : List Vl} {types' : List Ty} {code' : List Nd} {t : Ty}
    (hc : tComp t = true) (hb : tBad t = false) (h1 : vHas (.mk k n a s args types code) t = true) (h2 : vHas (.mk k' n' a' s' args' types' code') t = true) (he : ordN k n args = ordN k n' args') :
    ∃ ts, hasZ args ts ∧ hasZ args' ts ∧ args.length = args'.length := by
  obtain ⟨e1, rfl, rfl, rfl, f1⟩ := vHas_comp h1 hc hb
  obtain ⟨e2, rfl, rfl, rfl, f2⟩ := vHas_comp h2 hc hb
  obtain rfl : k' = k := by rw [e1, e2]
  unfold ordN at he
  rcases f1 with ⟨g0, g1, g2⟩ | ⟨g0, g1, g2⟩ | ⟨g0, g1, g2, g3, g4⟩ | ⟨g0, g1, g2, g3, g4⟩ | ⟨g0, g2, g3, g4⟩
  · rcases f2 with ⟨m0, m1, m2⟩ | ⟨m0, _⟩ | ⟨m0, _⟩ | ⟨m0, _⟩ | ⟨m0, _⟩ <;> first | omega | skip
    subst g2 m2; exact ⟨[], trivial, trivial, rfl⟩
  · rcases f2 with ⟨m0, _⟩ | ⟨m0, m1, m2⟩ | ⟨m0, _⟩ | ⟨m0, _⟩ | ⟨m0, _⟩ <;> first | omega | skip
    subst g2 m2; exact ⟨[], trivial, trivial, rfl⟩
  · rcases f2 with ⟨m0, _⟩ | ⟨m0, _⟩ | ⟨m0, m1, m2, m3, m4⟩ | ⟨m0, _⟩ | ⟨m0, _⟩ <;> first | omega | skip
    rw [if_pos g0, if_pos g0] at he
    exact ⟨_, g4, m4, by omega⟩
  · rcases f2 with ⟨m0, _⟩ | ⟨m0, _⟩ | ⟨m0, _⟩ | ⟨m0, m1, m2, m3, m4⟩ | ⟨m0, _⟩ <;> first | omega | skip
    exact ⟨_, g4, m4, by omega⟩
  · rcases f2 with ⟨m0, _⟩ | ⟨m0, _⟩ | ⟨m0, _⟩ | ⟨m0, _⟩ | ⟨m0, m2, m3, m4⟩ <;> first | omega | skip
    rw [if_neg (by omega), if_neg (by omega)] at he
    subst he
    exact ⟨_, g4, m4, by omega⟩
theorem bareB_mk (k n a : Int) (s : List UInt8) (l : List Vl) (ts : List Ty) (code : List Nd) (bn ba bs : Bool) (args types : Int) (bc : Bool) : bareB (.mk k n a s l ts code) bn ba bs args types bc = ((bn || n == 0) && ((ba || a == 0) && ((bs || s.isEmpty) && (decide ((l.length : Int) = args) && (decide ((ts.length : Int) = types) && (bc || decide (code.length = 0))))))) := rfl
theorem strGt (s s' : List UInt8) : (!(Op.bytesLess s s' || s == s')) = Op.bytesLess s' s := by
  cases h1 : Op.bytesLess s' s with
  | true =>
    rw [less_asymm s' s h1]
    have : s ≠ s' := by rintro rfl; rw [less_irrefl] at h1; cases h1
    simp [this]
  | false =>
    cases h2 : Op.bytesLess s s' with
    | true => rfl
    | false => simp [less_total s s' h2 h1]
attribute [local irreducible] AK AOps QCalls ECalls vCmp vHas vSame vsSame tGood tComp tGoodN vSize tySame tysSame ndSame ndsSame tHas rOrd rOrds

set_option maxHeartbeats 0 in
theorem SameTypes_calls (l r : List Ty) (hl : tysSize l ≤ 1099511627775) : QCalls Try.prog Try.X 118 [.sl 2 (encTys l), .sl 2 (encTys r)] (.bool (tysSame l r)) := by
  have h1 := SameType_calls (.mk 0 l) (.mk 0 r) (by simp only [tySize]; omega)
  rw [show tySame (.mk 0 l) (.mk 0 r) = tysSame l r from by unfold tySame; simp] at h1
  refine QCalls.of Try.func118 rfl (fun args w => Try.call118 args w) (Nat.le_of_ble_eq_true rfl) [(0, .c (.sl 2 (encTys l))), (1, .c (.sl 2 (encTys r)))] rfl fun β hβ => ?_; have hf := Try.func118
  exact dq

theorem isAddress_calls (n : Int) : QCalls Try.prog Try.X 143 [.int .i64 n] (.bool (decide (0 ≤ n ∧ n < 12))) := by
  refine QCalls.of Try.func143 rfl (fun args w => Try.call143 args w) (Nat.le_of_ble_eq_true rfl) [(0, .c (.int .i64 n))] rfl fun β hβ => ?_; have hf := Try.func143
  repeat' (first | refine AK.runP Try.hX Try.mixed 300 rfl ?_ | refine AK.condTe rfl asm ?_ | refine AK.condFe rfl asm ?_ | (refine AK.condS rfl (fun h => ?_) (fun h => ?_) <;> first | (cases h; done) | rw [h] | skip) | refine AK.retQ Try.hX hf rfl rfl ?_ | refine AK.region Try.mixed rfl ?_ | refine AOps.done ?_ | refine AOps.runS Try.hX kn rfl ?_ | refine AOps.box kn rfl rfl rfl rfl rfl rfl ?_ | refine AOps.alloc Try.hX kn rfl rfl rfl rfl rfl rfl rfl ?_ | refine AOps.store Try.hX kn rfl rfl rfl rfl rfl rfl rfl rfl rfl rfl rfl ?_ | refine AOps.buildSlice Try.hX kn rfl rfl rfl rfl rfl rfl rfl rfl rfl rfl rfl rfl ?_ | refine AOps.append Try.hX kn rfl rfl rfl rfl rfl rfl rfl rfl rfl rfl rfl rfl rfl rfl rfl rfl rfl rfl rfl rfl rfl ?_ ?_ | refine AOps.toStr Try.hX kn rfl rfl rfl rfl rfl rfl rfl rfl rfl rfl rfl (by first | exact rfl | exact byte1 _) rfl ?_ | refine AOps.buildArr Try.hX kn rfl rfl rfl rfl rfl rfl rfl rfl ?_ | refine AOps.indexArr Try.hX kn rfl rfl rfl rfl rfl rfl rfl rfl rfl rfl rfl rfl ?_ | refine AOps.runP1 Try.hX kn rfl rfl ?_ | (refine AOps.splitT rfl rfl rfl asm (fun h => ?_) <;> (fail_if_success (cases h; done)) <;> rw [h]) | (refine AOps.splitF rfl rfl rfl asm (fun h => ?_) <;> (fail_if_success (cases h; done)) <;> rw [h]) | (refine AOps.split rfl rfl rfl (fun h => ?_) (fun h => ?_) <;> (fail_if_success (cases h; done)) <;> rw [h]) | refine AOps.drawn (by kernel_rfl) ?_)
  all_goals
    show (_ : CV) = _
    clear hf
    simp_all <;> omega
theorem natural_calls (n : Int) : QCalls Try.prog Try.X 142 [.int .i64 n] (.bool (decide (0 ≤ n ∧ n ≤ maxI))) := by
  refine QCalls.of Try.func142 rfl (fun args w => Try.call142 args w) (Nat.le_of_ble_eq_true rfl) [(0, .c (.int .i64 n))] rfl fun β hβ => ?_; have hf := Try.func142
  repeat' (first | refine AK.runP Try.hX Try.mixed 300 rfl ?_ | refine AK.condTe rfl asm ?_ | refine AK.condFe rfl asm ?_ | (refine AK.condS rfl (fun h => ?_) (fun h => ?_) <;> first | (cases h; done) | rw [h] | skip) | refine AK.retQ Try.hX hf rfl rfl ?_ | refine AK.region Try.mixed rfl ?_ | refine AOps.done ?_ | refine AOps.runS Try.hX kn rfl ?_ | refine AOps.box kn rfl rfl rfl rfl rfl rfl ?_ | refine AOps.alloc Try.hX kn rfl rfl rfl rfl rfl rfl rfl ?_ | refine AOps.store Try.hX kn rfl rfl rfl rfl rfl rfl rfl rfl rfl rfl rfl ?_ | refine AOps.buildSlice Try.hX kn rfl rfl rfl rfl rfl rfl rfl rfl rfl rfl rfl rfl ?_ | refine AOps.append Try.hX kn rfl rfl rfl rfl rfl rfl rfl rfl rfl rfl rfl rfl rfl rfl rfl rfl rfl rfl rfl rfl rfl ?_ ?_ | refine AOps.toStr Try.hX kn rfl rfl rfl rfl rfl rfl rfl rfl rfl rfl rfl (by first | exact rfl | exact byte1 _) rfl ?_ | refine AOps.buildArr Try.hX kn rfl rfl rfl rfl rfl rfl rfl rfl ?_ | refine AOps.indexArr Try.hX kn rfl rfl rfl rfl rfl rfl rfl rfl rfl rfl rfl rfl ?_ | refine AOps.runP1 Try.hX kn rfl rfl ?_ | (refine AOps.splitT rfl rfl rfl asm (fun h => ?_) <;> (fail_if_success (cases h; done)) <;> rw [h]) | (refine AOps.splitF rfl rfl rfl asm (fun h => ?_) <;> (fail_if_success (cases h; done)) <;> rw [h]) | (refine AOps.split rfl rfl rfl (fun h => ?_) (fun h => ?_) <;> (fail_if_success (cases h; done)) <;> rw [h]) | refine AOps.drawn (by kernel_rfl) ?_)
  all_goals
    show (_ : CV) = _
    clear hf
    simp_all [maxI] <;> omega

set_option maxHeartbeats 0 in
theorem bare_calls (v : Vl) (bn ba bs : Bool) (na nt : Int) (bc : Bool) : QCalls Try.prog Try.X 141 [encVl v, .bool bn, .bool ba, .bool bs, .int .i64 na, .int .i64 nt, .bool bc] (.bool (bareB v bn ba bs na nt bc)) := by
  obtain ⟨k, n, a, s, args, types, code⟩ := v
  cases bn <;> cases ba <;> cases bs <;> cases bc
  all_goals
    rw [bareB_mk]
    rw [← encVls_length, ← encTys_length, ← encNds_length code]
    simp only [Bool.false_or, Bool.true_or, Bool.true_and]
  · refine QCalls.of Try.func141 rfl (fun args w => Try.call141 args w) (Nat.le_of_ble_eq_true rfl) [(0, .c (encVl (.mk k n a s args types code))), (1, .c (.bool false)), (2, .c (.bool false)), (3, .c (.bool false)), (4, .c (.int .i64 na)), (5, .c (.int .i64 nt)), (6, .c (.bool false))] rfl fun β hβ => ?_; have hf := Try.func141
    repeat' (first | refine AK.runP Try.hX Try.mixed 300 rfl ?_ | refine AK.condTe rfl asm ?_ | refine AK.condFe rfl asm ?_ | (refine AK.condS rfl (fun h => ?_) (fun h => ?_) <;> first | (cases h; done) | rw [h] | skip) | refine AK.retQ Try.hX hf rfl rfl ?_ | refine AK.region Try.mixed rfl ?_ | refine AOps.done ?_ | refine AOps.runS Try.hX kn rfl ?_ | refine AOps.box kn rfl rfl rfl rfl rfl rfl ?_ | refine AOps.alloc Try.hX kn rfl rfl rfl rfl rfl rfl rfl ?_ | refine AOps.store Try.hX kn rfl rfl rfl rfl rfl rfl rfl rfl rfl rfl rfl ?_ | refine AOps.buildSlice Try.hX kn rfl rfl rfl rfl rfl rfl rfl rfl rfl rfl rfl rfl ?_ | refine AOps.append Try.hX kn rfl rfl rfl rfl rfl rfl rfl rfl rfl rfl rfl rfl rfl rfl rfl rfl rfl rfl rfl rfl rfl ?_ ?_ | refine AOps.toStr Try.hX kn rfl rfl rfl rfl rfl rfl rfl rfl rfl rfl rfl (by first | exact rfl | exact byte1 _) rfl ?_ | refine AOps.buildArr Try.hX kn rfl rfl rfl rfl rfl rfl rfl rfl ?_ | refine AOps.indexArr Try.hX kn rfl rfl rfl rfl rfl rfl rfl rfl rfl rfl rfl rfl ?_ | refine AOps.runP1 Try.hX kn rfl rfl ?_ | (refine AOps.splitT rfl rfl rfl asm (fun h => ?_) <;> (fail_if_success (cases h; done)) <;> rw [h]) | (refine AOps.splitF rfl rfl rfl asm (fun h => ?_) <;> (fail_if_success (cases h; done)) <;> rw [h]) | (refine AOps.split rfl rfl rfl (fun h => ?_) (fun h => ?_) <;> (fail_if_success (cases h; done)) <;> rw [h]) | refine AOps.drawn (by kernel_rfl) ?_)
    all_goals
      show (_ : CV) = _
      clear hf
      refine congrArg CV.bool ?_
      (try generalize (encVls args).length = L1 at *)
      (try generalize (encTys types).length = L2 at *)
      (try generalize (encNds code).length = L3 at *)
      rw [Bool.eq_iff_iff]
      (try simp_all) <;> (try omega)
  · refine QCalls.of Try.func141 rfl (fun args w => Try.call141 args w) (Nat.le_of_ble_eq_true rfl) [(0, .c (encVl (.mk k n a s args types code))), (1, .c (.bool false)), (2, .c (.bool false)), (3, .c (.bool false)), (4, .c (.int .i64 na)), (5, .c (.int .i64 nt)), (6, .c (.bool true))] rfl fun β hβ => ?_; have hf := Try.func141
    repeat' (first | refine AK.runP Try.hX Try.mixed 300 rfl ?_ | refine AK.condTe rfl asm ?_ | refine AK.condFe rfl asm ?_ | (refine AK.condS rfl (fun h => ?_) (fun h => ?_) <;> first | (cases h; done) | rw [h] | skip) | refine AK.retQ Try.hX hf rfl rfl ?_ | refine AK.region Try.mixed rfl ?_ | refine AOps.done ?_ | refine AOps.runS Try.hX kn rfl ?_ | refine AOps.box kn rfl rfl rfl rfl rfl rfl ?_ | refine AOps.alloc Try.hX kn rfl rfl rfl rfl rfl rfl rfl ?_ | refine AOps.store Try.hX kn rfl rfl rfl rfl rfl rfl rfl rfl rfl rfl rfl ?_ | refine AOps.buildSlice Try.hX kn rfl rfl rfl rfl rfl rfl rfl rfl rfl rfl rfl rfl ?_ | refine AOps.append Try.hX kn rfl rfl rfl rfl rfl rfl rfl rfl rfl rfl rfl rfl rfl rfl rfl rfl rfl rfl rfl rfl rfl ?_ ?_ | refine AOps.toStr Try.hX kn rfl rfl rfl rfl rfl rfl rfl rfl rfl rfl rfl (by first | exact rfl | exact byte1 _) rfl ?_ | refine AOps.buildArr Try.hX kn rfl rfl rfl rfl rfl rfl rfl rfl ?_ | refine AOps.indexArr Try.hX kn rfl rfl rfl rfl rfl rfl rfl rfl rfl rfl rfl rfl ?_ | refine AOps.runP1 Try.hX kn rfl rfl ?_ | (refine AOps.splitT rfl rfl rfl asm (fun h => ?_) <;> (fail_if_success (cases h; done)) <;> rw [h]) | (refine AOps.splitF rfl rfl rfl asm (fun h => ?_) <;> (fail_if_success (cases h; done)) <;> rw [h]) | (refine AOps.split rfl rfl rfl (fun h => ?_) (fun h => ?_) <;> (fail_if_success (cases h; done)) <;> rw [h]) | refine AOps.drawn (by kernel_rfl) ?_)
    all_goals
      show (_ : CV) = _
      clear hf
      refine congrArg CV.bool ?_
      (try generalize (encVls args).length = L1 at *)
      (try generalize (encTys types).length = L2 at *)
      (try generalize (encNds code).length = L3 at *)
      rw [Bool.eq_iff_iff]
      (try simp_all) <;> (try omega)
  · refine QCalls.of Try.func141 rfl (fun args w => Try.call141 args w) (Nat.le_of_ble_eq_true rfl) [(0, .c (encVl (.mk k n a s args types code))), (1, .c (.bool false)), (2, .c (.bool false)), (3, .c (.bool true)), (4, .c (.int .i64 na)), (5, .c (.int .i64 nt)), (6, .c (.bool false))] rfl fun β hβ => ?_; have hf := Try.func141
    repeat' (first | refine AK.runP Try.hX Try.mixed 300 rfl ?_ | refine AK.condTe rfl asm ?_ | refine AK.condFe rfl asm ?_ | (refine AK.condS rfl (fun h => ?_) (fun h => ?_) <;> first | (cases h; done) | rw [h] | skip) | refine AK.retQ Try.hX hf rfl rfl ?_ | refine AK.region Try.mixed rfl ?_ | refine AOps.done ?_ | refine AOps.runS Try.hX kn rfl ?_ | refine AOps.box kn rfl rfl rfl rfl rfl rfl ?_ | refine AOps.alloc Try.hX kn rfl rfl rfl rfl rfl rfl rfl ?_ | refine AOps.store Try.hX kn rfl rfl rfl rfl rfl rfl rfl rfl rfl rfl rfl ?_ | refine AOps.buildSlice Try.hX kn rfl rfl rfl rfl rfl rfl rfl rfl rfl rfl rfl rfl ?_ | refine AOps.append Try.hX kn rfl rfl rfl rfl rfl rfl rfl rfl rfl rfl rfl rfl rfl rfl rfl rfl rfl rfl rfl rfl rfl ?_ ?_ | refine AOps.toStr Try.hX kn rfl rfl rfl rfl rfl rfl rfl rfl rfl rfl rfl (by first | exact rfl | exact byte1 _) rfl ?_ | refine AOps.buildArr Try.hX kn rfl rfl rfl rfl rfl rfl rfl rfl ?_ | refine AOps.indexArr Try.hX kn rfl rfl rfl rfl rfl rfl rfl rfl rfl rfl rfl rfl ?_ | refine AOps.runP1 Try.hX kn rfl rfl ?_ | (refine AOps.splitT rfl rfl rfl asm (fun h => ?_) <;> (fail_if_success (cases h; done)) <;> rw [h]) | (refine AOps.splitF rfl rfl rfl asm (fun h => ?_) <;> (fail_if_success (cases h; done)) <;> rw [h]) | (refine AOps.split rfl rfl rfl (fun h => ?_) (fun h => ?_) <;> (fail_if_success (cases h; done)) <;> rw [h]) | refine AOps.drawn (by kernel_rfl) ?_)
    all_goals
      show (_ : CV) = _
      clear hf
      refine congrArg CV.bool ?_
      (try generalize (encVls args).length = L1 at *)
      (try generalize (encTys types).length = L2 at *)
      (try generalize (encNds code).length = L3 at *)
      rw [Bool.eq_iff_iff]
      (try simp_all) <;> (try omega)
  · refine QCalls.of Try.func141 rfl (fun args w => Try.call141 args w) (Nat.le_of_ble_eq_true rfl) [(0, .c (encVl (.mk k n a s args types code))), (1, .c (.bool false)), (2, .c (.bool false)), (3, .c (.bool true)), (4, .c (.int .i64 na)), (5, .c (.int .i64 nt)), (6, .c (.bool true))] rfl fun β hβ => ?_; have hf := Try.func141
    repeat' (first | refine AK.runP Try.hX Try.mixed 300 rfl ?_ | refine AK.condTe rfl asm ?_ | refine AK.condFe rfl asm ?_ | (refine AK.condS rfl (fun h => ?_) (fun h => ?_) <;> first | (cases h; done) | rw [h] | skip) | refine AK.retQ Try.hX hf rfl rfl ?_ | refine AK.region Try.mixed rfl ?_ | refine AOps.done ?_ | refine AOps.runS Try.hX kn rfl ?_ | refine AOps.box kn rfl rfl rfl rfl rfl rfl ?_ | refine AOps.alloc Try.hX kn rfl rfl rfl rfl rfl rfl rfl ?_ | refine AOps.store Try.hX kn rfl rfl rfl rfl rfl rfl rfl rfl rfl rfl rfl ?_ | refine AOps.buildSlice Try.hX kn rfl rfl rfl rfl rfl rfl rfl rfl rfl rfl rfl rfl ?_ | refine AOps.append Try.hX kn rfl rfl rfl rfl rfl rfl rfl rfl rfl rfl rfl rfl rfl rfl rfl rfl rfl rfl rfl rfl rfl ?_ ?_ | refine AOps.toStr Try.hX kn rfl rfl rfl rfl rfl rfl rfl rfl rfl rfl rfl (by first | exact rfl | exact byte1 _) rfl ?_ | refine AOps.buildArr Try.hX kn rfl rfl rfl rfl rfl rfl rfl rfl ?_ | refine AOps.indexArr Try.hX kn rfl rfl rfl rfl rfl rfl rfl rfl rfl rfl rfl rfl ?_ | refine AOps.runP1 Try.hX kn rfl rfl ?_ | (refine AOps.splitT rfl rfl rfl asm (fun h => ?_) <;> (fail_if_success (cases h; done)) <;> rw [h]) | (refine AOps.splitF rfl rfl rfl asm (fun h => ?_) <;> (fail_if_success (cases h; done)) <;> rw [h]) | (refine AOps.split rfl rfl rfl (fun h => ?_) (fun h => ?_) <;> (fail_if_success (cases h; done)) <;> rw [h]) | refine AOps.drawn (by kernel_rfl) ?_)
    all_goals
      show (_ : CV) = _
      clear hf
      refine congrArg CV.bool ?_
      (try generalize (encVls args).length = L1 at *)
      (try generalize (encTys types).length = L2 at *)
      (try generalize (encNds code).length = L3 at *)
      rw [Bool.eq_iff_iff]
      (try simp_all) <;> (try omega)
  · refine QCalls.of Try.func141 rfl (fun args w => Try.call141 args w) (Nat.le_of_ble_eq_true rfl) [(0, .c (encVl (.mk k n a s args types code))), (1, .c (.bool false)), (2, .c (.bool true)), (3, .c (.bool false)), (4, .c (.int .i64 na)), (5, .c (.int .i64 nt)), (6, .c (.bool false))] rfl fun β hβ => ?_; have hf := Try.func141
    repeat' (first | refine AK.runP Try.hX Try.mixed 300 rfl ?_ | refine AK.condTe rfl asm ?_ | refine AK.condFe rfl asm ?_ | (refine AK.condS rfl (fun h => ?_) (fun h => ?_) <;> first | (cases h; done) | rw [h] | skip) | refine AK.retQ Try.hX hf rfl rfl ?_ | refine AK.region Try.mixed rfl ?_ | refine AOps.done ?_ | refine AOps.runS Try.hX kn rfl ?_ | refine AOps.box kn rfl rfl rfl rfl rfl rfl ?_ | refine AOps.alloc Try.hX kn rfl rfl rfl rfl rfl rfl rfl ?_ | refine AOps.store Try.hX kn rfl rfl rfl rfl rfl rfl rfl rfl rfl rfl rfl ?_ | refine AOps.buildSlice Try.hX kn rfl rfl rfl rfl rfl rfl rfl rfl rfl rfl rfl rfl ?_ | refine AOps.append Try.hX kn rfl rfl rfl rfl rfl rfl rfl rfl rfl rfl rfl rfl rfl rfl rfl rfl rfl rfl rfl rfl rfl ?_ ?_ | refine AOps.toStr Try.hX kn rfl rfl rfl rfl rfl rfl rfl rfl rfl rfl rfl (by first | exact rfl | exact byte1 _) rfl ?_ | refine AOps.buildArr Try.hX kn rfl rfl rfl rfl rfl rfl rfl rfl ?_ | refine AOps.indexArr Try.hX kn rfl rfl rfl rfl rfl rfl rfl rfl rfl rfl rfl rfl ?_ | refine AOps.runP1 Try.hX kn rfl rfl ?_ | (refine AOps.splitT rfl rfl rfl asm (fun h => ?_) <;> (fail_if_success (cases h; done)) <;> rw [h]) | (refine AOps.splitF rfl rfl rfl asm (fun h => ?_) <;> (fail_if_success (cases h; done)) <;> rw [h]) | (refine AOps.split rfl rfl rfl (fun h => ?_) (fun h => ?_) <;> (fail_if_success (cases h; done)) <;> rw [h]) | refine AOps.drawn (by kernel_rfl) ?_)
    all_goals
      show (_ : CV) = _
      clear hf
      refine congrArg CV.bool ?_
      (try generalize (encVls args).length = L1 at *)
      (try generalize (encTys types).length = L2 at *)
      (try generalize (encNds code).length = L3 at *)
      rw [Bool.eq_iff_iff]
      (try simp_all) <;> (try omega)
  · refine QCalls.of Try.func141 rfl (fun args w => Try.call141 args w) (Nat.le_of_ble_eq_true rfl) [(0, .c (encVl (.mk k n a s args types code))), (1, .c (.bool false)), (2, .c (.bool true)), (3, .c (.bool false)), (4, .c (.int .i64 na)), (5, .c (.int .i64 nt)), (6, .c (.bool true))] rfl fun β hβ => ?_; have hf := Try.func141
    repeat' (first | refine AK.runP Try.hX Try.mixed 300 rfl ?_ | refine AK.condTe rfl asm ?_ | refine AK.condFe rfl asm ?_ | (refine AK.condS rfl (fun h => ?_) (fun h => ?_) <;> first | (cases h; done) | rw [h] | skip) | refine AK.retQ Try.hX hf rfl rfl ?_ | refine AK.region Try.mixed rfl ?_ | refine AOps.done ?_ | refine AOps.runS Try.hX kn rfl ?_ | refine AOps.box kn rfl rfl rfl rfl rfl rfl ?_ | refine AOps.alloc Try.hX kn rfl rfl rfl rfl rfl rfl rfl ?_ | refine AOps.store Try.hX kn rfl rfl rfl rfl rfl rfl rfl rfl rfl rfl rfl ?_ | refine AOps.buildSlice Try.hX kn rfl rfl rfl rfl rfl rfl rfl rfl rfl rfl rfl rfl ?_ | refine AOps.append Try.hX kn rfl rfl rfl rfl rfl rfl rfl rfl rfl rfl rfl rfl rfl rfl rfl rfl rfl rfl rfl rfl rfl ?_ ?_ | refine AOps.toStr Try.hX kn rfl rfl rfl rfl rfl rfl rfl rfl rfl rfl rfl (by first | exact rfl | exact byte1 _) rfl ?_ | refine AOps.buildArr Try.hX kn rfl rfl rfl rfl rfl rfl rfl rfl ?_ | refine AOps.indexArr Try.hX kn rfl rfl rfl rfl rfl rfl rfl rfl rfl rfl rfl rfl ?_ | refine AOps.runP1 Try.hX kn rfl rfl ?_ | (refine AOps.splitT rfl rfl rfl asm (fun h => ?_) <;> (fail_if_success (cases h; done)) <;> rw [h]) | (refine AOps.splitF rfl rfl rfl asm (fun h => ?_) <;> (fail_if_success (cases h; done)) <;> rw [h]) | (refine AOps.split rfl rfl rfl (fun h => ?_) (fun h => ?_) <;> (fail_if_success (cases h; done)) <;> rw [h]) | refine AOps.drawn (by kernel_rfl) ?_)
    all_goals
      show (_ : CV) = _
      clear hf
      refine congrArg CV.bool ?_
      (try generalize (encVls args).length = L1 at *)
      (try generalize (encTys types).length = L2 at *)
      (try generalize (encNds code).length = L3 at *)
      rw [Bool.eq_iff_iff]
      (try simp_all) <;> (try omega)
  · refine QCalls.of Try.func141 rfl (fun args w => Try.call141 args w) (Nat.le_of_ble_eq_true rfl) [(0, .c (encVl (.mk k n a s args types code))), (1, .c (.bool false)), (2, .c (.bool true)), (3, .c (.bool true)), (4, .c (.int .i64 na)), (5, .c (.int .i64 nt)), (6, .c (.bool false))] rfl fun β hβ => ?_; have hf := Try.func141
    repeat' (first | refine AK.runP Try.hX Try.mixed 300 rfl ?_ | refine AK.condTe rfl asm ?_ | refine AK.condFe rfl asm ?_ | (refine AK.condS rfl (fun h => ?_) (fun h => ?_) <;> first | (cases h; done) | rw [h] | skip) | refine AK.retQ Try.hX hf rfl rfl ?_ | refine AK.region Try.mixed rfl ?_ | refine AOps.done ?_ | refine AOps.runS Try.hX kn rfl ?_ | refine AOps.box kn rfl rfl rfl rfl rfl rfl ?_ | refine AOps.alloc Try.hX kn rfl rfl rfl rfl rfl rfl rfl ?_ | refine AOps.store Try.hX kn rfl rfl rfl rfl rfl rfl rfl rfl rfl rfl rfl ?_ | refine AOps.buildSlice Try.hX kn rfl rfl rfl rfl rfl rfl rfl rfl rfl rfl rfl rfl ?_ | refine AOps.append Try.hX kn rfl rfl rfl rfl rfl rfl rfl rfl rfl rfl rfl rfl rfl rfl rfl rfl rfl rfl rfl rfl rfl ?_ ?_ | refine AOps.toStr Try.hX kn rfl rfl rfl rfl rfl rfl rfl rfl rfl rfl rfl (by first | exact rfl | exact byte1 _) rfl ?_ | refine AOps.buildArr Try.hX kn rfl rfl rfl rfl rfl rfl rfl rfl ?_ | refine AOps.indexArr Try.hX kn rfl rfl rfl rfl rfl rfl rfl rfl rfl rfl rfl rfl ?_ | refine AOps.runP1 Try.hX kn rfl rfl ?_ | (refine AOps.splitT rfl rfl rfl asm (fun h => ?_) <;> (fail_if_success (cases h; done)) <;> rw [h]) | (refine AOps.splitF rfl rfl rfl asm (fun h => ?_) <;> (fail_if_success (cases h; done)) <;> rw [h]) | (refine AOps.split rfl rfl rfl (fun h => ?_) (fun h => ?_) <;> (fail_if_success (cases h; done)) <;> rw [h]) | refine AOps.drawn (by kernel_rfl) ?_)
    all_goals
      show (_ : CV) = _
      clear hf
      refine congrArg CV.bool ?_
      (try generalize (encVls args).length = L1 at *)
      (try generalize (encTys types).length = L2 at *)
      (try generalize (encNds code).length = L3 at *)
      rw [Bool.eq_iff_iff]
      (try simp_all) <;> (try omega)
  · refine QCalls.of Try.func141 rfl (fun args w => Try.call141 args w) (Nat.le_of_ble_eq_true rfl) [(0, .c (encVl (.mk k n a s args types code))), (1, .c (.bool false)), (2, .c (.bool true)), (3, .c (.bool true)), (4, .c (.int .i64 na)), (5, .c (.int .i64 nt)), (6, .c (.bool true))] rfl fun β hβ => ?_; have hf := Try.func141
    repeat' (first | refine AK.runP Try.hX Try.mixed 300 rfl ?_ | refine AK.condTe rfl asm ?_ | refine AK.condFe rfl asm ?_ | (refine AK.condS rfl (fun h => ?_) (fun h => ?_) <;> first | (cases h; done) | rw [h] | skip) | refine AK.retQ Try.hX hf rfl rfl ?_ | refine AK.region Try.mixed rfl ?_ | refine AOps.done ?_ | refine AOps.runS Try.hX kn rfl ?_ | refine AOps.box kn rfl rfl rfl rfl rfl rfl ?_ | refine AOps.alloc Try.hX kn rfl rfl rfl rfl rfl rfl rfl ?_ | refine AOps.store Try.hX kn rfl rfl rfl rfl rfl rfl rfl rfl rfl rfl rfl ?_ | refine AOps.buildSlice Try.hX kn rfl rfl rfl rfl rfl rfl rfl rfl rfl rfl rfl rfl ?_ | refine AOps.append Try.hX kn rfl rfl rfl rfl rfl rfl rfl rfl rfl rfl rfl rfl rfl rfl rfl rfl rfl rfl rfl rfl rfl ?_ ?_ | refine AOps.toStr Try.hX kn rfl rfl rfl rfl rfl rfl rfl rfl rfl rfl rfl (by first | exact rfl | exact byte1 _) rfl ?_ | refine AOps.buildArr Try.hX kn rfl rfl rfl rfl rfl rfl rfl rfl ?_ | refine AOps.indexArr Try.hX kn rfl rfl rfl rfl rfl rfl rfl rfl rfl rfl rfl rfl ?_ | refine AOps.runP1 Try.hX kn rfl rfl ?_ | (refine AOps.splitT rfl rfl rfl asm (fun h => ?_) <;> (fail_if_success (cases h; done)) <;> rw [h]) | (refine AOps.splitF rfl rfl rfl asm (fun h => ?_) <;> (fail_if_success (cases h; done)) <;> rw [h]) | (refine AOps.split rfl rfl rfl (fun h => ?_) (fun h => ?_) <;> (fail_if_success (cases h; done)) <;> rw [h]) | refine AOps.drawn (by kernel_rfl) ?_)
    all_goals
      show (_ : CV) = _
      clear hf
      refine congrArg CV.bool ?_
      (try generalize (encVls args).length = L1 at *)
      (try generalize (encTys types).length = L2 at *)
      (try generalize (encNds code).length = L3 at *)
      rw [Bool.eq_iff_iff]
      (try simp_all) <;> (try omega)
  · refine QCalls.of Try.func141 rfl (fun args w => Try.call141 args w) (Nat.le_of_ble_eq_true rfl) [(0, .c (encVl (.mk k n a s args types code))), (1, .c (.bool true)), (2, .c (.bool false)), (3, .c (.bool false)), (4, .c (.int .i64 na)), (5, .c (.int .i64 nt)), (6, .c (.bool false))] rfl fun β hβ => ?_; have hf := Try.func141
    repeat' (first | refine AK.runP Try.hX Try.mixed 300 rfl ?_ | refine AK.condTe rfl asm ?_ | refine AK.condFe rfl asm ?_ | (refine AK.condS rfl (fun h => ?_) (fun h => ?_) <;> first | (cases h; done) | rw [h] | skip) | refine AK.retQ Try.hX hf rfl rfl ?_ | refine AK.region Try.mixed rfl ?_ | refine AOps.done ?_ | refine AOps.runS Try.hX kn rfl ?_ | refine AOps.box kn rfl rfl rfl rfl rfl rfl ?_ | refine AOps.alloc Try.hX kn rfl rfl rfl rfl rfl rfl rfl ?_ | refine AOps.store Try.hX kn rfl rfl rfl rfl rfl rfl rfl rfl rfl rfl rfl ?_ | refine AOps.buildSlice Try.hX kn rfl rfl rfl rfl rfl rfl rfl rfl rfl rfl rfl rfl ?_ | refine AOps.append Try.hX kn rfl rfl rfl rfl rfl rfl rfl rfl rfl rfl rfl rfl rfl rfl rfl rfl rfl rfl rfl rfl rfl ?_ ?_ | refine AOps.toStr Try.hX kn rfl rfl rfl rfl rfl rfl rfl rfl rfl rfl rfl (by first | exact rfl | exact byte1 _) rfl ?_ | refine AOps.buildArr Try.hX kn rfl rfl rfl rfl rfl rfl rfl rfl ?_ | refine AOps.indexArr Try.hX kn rfl rfl rfl rfl rfl rfl rfl rfl rfl rfl rfl rfl ?_ | refine AOps.runP1 Try.hX kn rfl rfl ?_ | (refine AOps.splitT rfl rfl rfl asm (fun h => ?_) <;> (fail_if_success (cases h; done)) <;> rw [h]) | (refine AOps.splitF rfl rfl rfl asm (fun h => ?_) <;> (fail_if_success (cases h; done)) <;> rw [h]) | (refine AOps.split rfl rfl rfl (fun h => ?_) (fun h => ?_) <;> (fail_if_success (cases h; done)) <;> rw [h]) | refine AOps.drawn (by kernel_rfl) ?_)
    all_goals
      show (_ : CV) = _
      clear hf
      refine congrArg CV.bool ?_
      (try generalize (encVls args).length = L1 at *)
      (try generalize (encTys types).length = L2 at *)
      (try generalize (encNds code).length = L3 at *)
      rw [Bool.eq_iff_iff]
      (try simp_all) <;> (try omega)
  · refine QCalls.of Try.func141 rfl (fun args w => Try.call141 args w) (Nat.le_of_ble_eq_true rfl) [(0, .c (encVl (.mk k n a s args types code))), (1, .c (.bool true)), (2, .c (.bool false)), (3, .c (.bool false)), (4, .c (.int .i64 na)), (5, .c (.int .i64 nt)), (6, .c (.bool true))] rfl fun β hβ => ?_; have hf := Try.func141
    repeat' (first | refine AK.runP Try.hX Try.mixed 300 rfl ?_ | refine AK.condTe rfl asm ?_ | refine AK.condFe rfl asm ?_ | (refine AK.condS rfl (fun h => ?_) (fun h => ?_) <;> first | (cases h; done) | rw [h] | skip) | refine AK.retQ Try.hX hf rfl rfl ?_ | refine AK.region Try.mixed rfl ?_ | refine AOps.done ?_ | refine AOps.runS Try.hX kn rfl ?_ | refine AOps.box kn rfl rfl rfl rfl rfl rfl ?_ | refine AOps.alloc Try.hX kn rfl rfl rfl rfl rfl rfl rfl ?_ | refine AOps.store Try.hX kn rfl rfl rfl rfl rfl rfl rfl rfl rfl rfl rfl ?_ | refine AOps.buildSlice Try.hX kn rfl rfl rfl rfl rfl rfl rfl rfl rfl rfl rfl rfl ?_ | refine AOps.append Try.hX kn rfl rfl rfl rfl rfl rfl rfl rfl rfl rfl rfl rfl rfl rfl rfl rfl rfl rfl rfl rfl rfl ?_ ?_ | refine AOps.toStr Try.hX kn rfl rfl rfl rfl rfl rfl rfl rfl rfl rfl rfl (by first | exact rfl | exact byte1 _) rfl ?_ | refine AOps.buildArr Try.hX kn rfl rfl rfl rfl rfl rfl rfl rfl ?_ | refine AOps.indexArr Try.hX kn rfl rfl rfl rfl rfl rfl rfl rfl rfl rfl rfl rfl ?_ | refine AOps.runP1 Try.hX kn rfl rfl ?_ | (refine AOps.splitT rfl rfl rfl asm (fun h => ?_) <;> (fail_if_success (cases h; done)) <;> rw [h]) | (refine AOps.splitF rfl rfl rfl asm (fun h => ?_) <;> (fail_if_success (cases h; done)) <;> rw [h]) | (refine AOps.split rfl rfl rfl (fun h => ?_) (fun h => ?_) <;> (fail_if_success (cases h; done)) <;> rw [h]) | refine AOps.drawn (by kernel_rfl) ?_)
    all_goals
      show (_ : CV) = _
      clear hf
      refine congrArg CV.bool ?_
      (try generalize (encVls args).length = L1 at *)
      (try generalize (encTys types).length = L2 at *)
      (try generalize (encNds code).length = L3 at *)
      rw [Bool.eq_iff_iff]
      (try simp_all) <;> (try omega)
  · refine QCalls.of Try.func141 rfl (fun args w => Try.call141 args w) (Nat.le_of_ble_eq_true rfl) [(0, .c (encVl (.mk k n a s args types code))), (1, .c (.bool true)), (2, .c (.bool false)), (3, .c (.bool true)), (4, .c (.int .i64 na)), (5, .c (.int .i64 nt)), (6, .c (.bool false))] rfl fun β hβ => ?_; have hf := Try.func141
    repeat' (first | refine AK.runP Try.hX Try.mixed 300 rfl ?_ | refine AK.condTe rfl asm ?_ | refine AK.condFe rfl asm ?_ | (refine AK.condS rfl (fun h => ?_) (fun h => ?_) <;> first | (cases h; done) | rw [h] | skip) | refine AK.retQ Try.hX hf rfl rfl ?_ | refine AK.region Try.mixed rfl ?_ | refine AOps.done ?_ | refine AOps.runS Try.hX kn rfl ?_ | refine AOps.box kn rfl rfl rfl rfl rfl rfl ?_ | refine AOps.alloc Try.hX kn rfl rfl rfl rfl rfl rfl rfl ?_ | refine AOps.store Try.hX kn rfl rfl rfl rfl rfl rfl rfl rfl rfl rfl rfl ?_ | refine AOps.buildSlice Try.hX kn rfl rfl rfl rfl rfl rfl rfl rfl rfl rfl rfl rfl ?_ | refine AOps.append Try.hX kn rfl rfl rfl rfl rfl rfl rfl rfl rfl rfl rfl rfl rfl rfl rfl rfl rfl rfl rfl rfl rfl ?_ ?_ | refine AOps.toStr Try.hX kn rfl rfl rfl rfl rfl rfl rfl rfl rfl rfl rfl (by first | exact rfl | exact byte1 _) rfl ?_ | refine AOps.buildArr Try.hX kn rfl rfl rfl rfl rfl rfl rfl rfl ?_ | refine AOps.indexArr Try.hX kn rfl rfl rfl rfl rfl rfl rfl rfl rfl rfl rfl rfl ?_ | refine AOps.runP1 Try.hX kn rfl rfl ?_ | (refine AOps.splitT rfl rfl rfl asm (fun h => ?_) <;> (fail_if_success (cases h; done)) <;> rw [h]) | (refine AOps.splitF rfl rfl rfl asm (fun h => ?_) <;> (fail_if_success (cases h; done)) <;> rw [h]) | (refine AOps.split rfl rfl rfl (fun h => ?_) (fun h => ?_) <;> (fail_if_success (cases h; done)) <;> rw [h]) | refine AOps.drawn (by kernel_rfl) ?_)
    all_goals
      show (_ : CV) = _
      clear hf
      refine congrArg CV.bool ?_
      (try generalize (encVls args).length = L1 at *)
      (try generalize (encTys types).length = L2 at *)
      (try generalize (encNds code).length = L3 at *)
      rw [Bool.eq_iff_iff]
      (try simp_all) <;> (try omega)
  · refine QCalls.of Try.func141 rfl (fun args w => Try.call141 args w) (Nat.le_of_ble_eq_true rfl) [(0, .c (encVl (.mk k n a s args types code))), (1, .c (.bool true)), (2, .c (.bool false)), (3, .c (.bool true)), (4, .c (.int .i64 na)), (5, .c (.int .i64 nt)), (6, .c (.bool true))] rfl fun β hβ => ?_; have hf := Try.func141
    repeat' (first | refine AK.runP Try.hX Try.mixed 300 rfl ?_ | refine AK.condTe rfl asm ?_ | refine AK.condFe rfl asm ?_ | (refine AK.condS rfl (fun h => ?_) (fun h => ?_) <;> first | (cases h; done) | rw [h] | skip) | refine AK.retQ Try.hX hf rfl rfl ?_ | refine AK.region Try.mixed rfl ?_ | refine AOps.done ?_ | refine AOps.runS Try.hX kn rfl ?_ | refine AOps.box kn rfl rfl rfl rfl rfl rfl ?_ | refine AOps.alloc Try.hX kn rfl rfl rfl rfl rfl rfl rfl ?_ | refine AOps.store Try.hX kn rfl rfl rfl rfl rfl rfl rfl rfl rfl rfl rfl ?_ | refine AOps.buildSlice Try.hX kn rfl rfl rfl rfl rfl rfl rfl rfl rfl rfl rfl rfl ?_ | refine AOps.append Try.hX kn rfl rfl rfl rfl rfl rfl rfl rfl rfl rfl rfl rfl rfl rfl rfl rfl rfl rfl rfl rfl rfl ?_ ?_ | refine AOps.toStr Try.hX kn rfl rfl rfl rfl rfl rfl rfl rfl rfl rfl rfl (by first | exact rfl | exact byte1 _) rfl ?_ | refine AOps.buildArr Try.hX kn rfl rfl rfl rfl rfl rfl rfl rfl ?_ | refine AOps.indexArr Try.hX kn rfl rfl rfl rfl rfl rfl rfl rfl rfl rfl rfl rfl ?_ | refine AOps.runP1 Try.hX kn rfl rfl ?_ | (refine AOps.splitT rfl rfl rfl asm (fun h => ?_) <;> (fail_if_success (cases h; done)) <;> rw [h]) | (refine AOps.splitF rfl rfl rfl asm (fun h => ?_) <;> (fail_if_success (cases h; done)) <;> rw [h]) | (refine AOps.split rfl rfl rfl (fun h => ?_) (fun h => ?_) <;> (fail_if_success (cases h; done)) <;> rw [h]) | refine AOps.drawn (by kernel_rfl) ?_)
    all_goals
      show (_ : CV) = _
      clear hf
      refine congrArg CV.bool ?_
      (try generalize (encVls args).length = L1 at *)
      (try generalize (encTys types).length = L2 at *)
      (try generalize (encNds code).length = L3 at *)
      rw [Bool.eq_iff_iff]
      (try simp_all) <;> (try omega)
  · refine QCalls.of Try.func141 rfl (fun args w => Try.call141 args w) (Nat.le_of_ble_eq_true rfl) [(0, .c (encVl (.mk k n a s args types code))), (1, .c (.bool true)), (2, .c (.bool true)), (3, .c (.bool false)), (4, .c (.int .i64 na)), (5, .c (.int .i64 nt)), (6, .c (.bool false))] rfl fun β hβ => ?_; have hf := Try.func141
    repeat' (first | refine AK.runP Try.hX Try.mixed 300 rfl ?_ | refine AK.condTe rfl asm ?_ | refine AK.condFe rfl asm ?_ | (refine AK.condS rfl (fun h => ?_) (fun h => ?_) <;> first | (cases h; done) | rw [h] | skip) | refine AK.retQ Try.hX hf rfl rfl ?_ | refine AK.region Try.mixed rfl ?_ | refine AOps.done ?_ | refine AOps.runS Try.hX kn rfl ?_ | refine AOps.box kn rfl rfl rfl rfl rfl rfl ?_ | refine AOps.alloc Try.hX kn rfl rfl rfl rfl rfl rfl rfl ?_ | refine AOps.store Try.hX kn rfl rfl rfl rfl rfl rfl rfl rfl rfl rfl rfl ?_ | refine AOps.buildSlice Try.hX kn rfl rfl rfl rfl rfl rfl rfl rfl rfl rfl rfl rfl ?_ | refine AOps.append Try.hX kn rfl rfl rfl rfl rfl rfl rfl rfl rfl rfl rfl rfl rfl rfl rfl rfl rfl rfl rfl rfl rfl ?_ ?_ | refine AOps.toStr Try.hX kn rfl rfl rfl rfl rfl rfl rfl rfl rfl rfl rfl (by first | exact rfl | exact byte1 _) rfl ?_ | refine AOps.buildArr Try.hX kn rfl rfl rfl rfl rfl rfl rfl rfl ?_ | refine AOps.indexArr Try.hX kn rfl rfl rfl rfl rfl rfl rfl rfl rfl rfl rfl rfl ?_ | refine AOps.runP1 Try.hX kn rfl rfl ?_ | (refine AOps.splitT rfl rfl rfl asm (fun h => ?_) <;> (fail_if_success (cases h; done)) <;> rw [h]) | (refine AOps.splitF rfl rfl rfl asm (fun h => ?_) <;> (fail_if_success (cases h; done)) <;> rw [h]) | (refine AOps.split rfl rfl rfl (fun h => ?_) (fun h => ?_) <;> (fail_if_success (cases h; done)) <;> rw [h]) | refine AOps.drawn (by kernel_rfl) ?_)
    all_goals
      show (_ : CV) = _
      clear hf
      refine congrArg CV.bool ?_
      (try generalize (encVls args).length = L1 at *)
      (try generalize (encTys types).length = L2 at *)
      (try generalize (encNds code).length = L3 at *)
      rw [Bool.eq_iff_iff]
      (try simp_all) <;> (try omega)
  · refine QCalls.of Try.func141 rfl (fun args w => Try.call141 args w) (Nat.le_of_ble_eq_true rfl) [(0, .c (encVl (.mk k n a s args types code))), (1, .c (.bool true)), (2, .c (.bool true)), (3, .c (.bool false)), (4, .c (.int .i64 na)), (5, .c (.int .i64 nt)), (6, .c (.bool true))] rfl fun β hβ => ?_; have hf := Try.func141
    repeat' (first | refine AK.runP Try.hX Try.mixed 300 rfl ?_ | refine AK.condTe rfl asm ?_ | refine AK.condFe rfl asm ?_ | (refine AK.condS rfl (fun h => ?_) (fun h => ?_) <;> first | (cases h; done) | rw [h] | skip) | refine AK.retQ Try.hX hf rfl rfl ?_ | refine AK.region Try.mixed rfl ?_ | refine AOps.done ?_ | refine AOps.runS Try.hX kn rfl ?_ | refine AOps.box kn rfl rfl rfl rfl rfl rfl ?_ | refine AOps.alloc Try.hX kn rfl rfl rfl rfl rfl rfl rfl ?_ | refine AOps.store Try.hX kn rfl rfl rfl rfl rfl rfl rfl rfl rfl rfl rfl ?_ | refine AOps.buildSlice Try.hX kn rfl rfl rfl rfl rfl rfl rfl rfl rfl rfl rfl rfl ?_ | refine AOps.append Try.hX kn rfl rfl rfl rfl rfl rfl rfl rfl rfl rfl rfl rfl rfl rfl rfl rfl rfl rfl rfl rfl rfl ?_ ?_ | refine AOps.toStr Try.hX kn rfl rfl rfl rfl rfl rfl rfl rfl rfl rfl rfl (by first | exact rfl | exact byte1 _) rfl ?_ | refine AOps.buildArr Try.hX kn rfl rfl rfl rfl rfl rfl rfl rfl ?_ | refine AOps.indexArr Try.hX kn rfl rfl rfl rfl rfl rfl rfl rfl rfl rfl rfl rfl ?_ | refine AOps.runP1 Try.hX kn rfl rfl ?_ | (refine AOps.splitT rfl rfl rfl asm (fun h => ?_) <;> (fail_if_success (cases h; done)) <;> rw [h]) | (refine AOps.splitF rfl rfl rfl asm (fun h => ?_) <;> (fail_if_success (cases h; done)) <;> rw [h]) | (refine AOps.split rfl rfl rfl (fun h => ?_) (fun h => ?_) <;> (fail_if_success (cases h; done)) <;> rw [h]) | refine AOps.drawn (by kernel_rfl) ?_)
    all_goals
      show (_ : CV) = _
      clear hf
      refine congrArg CV.bool ?_
      (try generalize (encVls args).length = L1 at *)
      (try generalize (encTys types).length = L2 at *)
      (try generalize (encNds code).length = L3 at *)
      rw [Bool.eq_iff_iff]
      (try simp_all) <;> (try omega)
  · refine QCalls.of Try.func141 rfl (fun args w => Try.call141 args w) (Nat.le_of_ble_eq_true rfl) [(0, .c (encVl (.mk k n a s args types code))), (1, .c (.bool true)), (2, .c (.bool true)), (3, .c (.bool true)), (4, .c (.int .i64 na)), (5, .c (.int .i64 nt)), (6, .c (.bool false))] rfl fun β hβ => ?_; have hf := Try.func141
    repeat' (first | refine AK.runP Try.hX Try.mixed 300 rfl ?_ | refine AK.condTe rfl asm ?_ | refine AK.condFe rfl asm ?_ | (refine AK.condS rfl (fun h => ?_) (fun h => ?_) <;> first | (cases h; done) | rw [h] | skip) | refine AK.retQ Try.hX hf rfl rfl ?_ | refine AK.region Try.mixed rfl ?_ | refine AOps.done ?_ | refine AOps.runS Try.hX kn rfl ?_ | refine AOps.box kn rfl rfl rfl rfl rfl rfl ?_ | refine AOps.alloc Try.hX kn rfl rfl rfl rfl rfl rfl rfl ?_ | refine AOps.store Try.hX kn rfl rfl rfl rfl rfl rfl rfl rfl rfl rfl rfl ?_ | refine AOps.buildSlice Try.hX kn rfl rfl rfl rfl rfl rfl rfl rfl rfl rfl rfl rfl ?_ | refine AOps.append Try.hX kn rfl rfl rfl rfl rfl rfl rfl rfl rfl rfl rfl rfl rfl rfl rfl rfl rfl rfl rfl rfl rfl ?_ ?_ | refine AOps.toStr Try.hX kn rfl rfl rfl rfl rfl rfl rfl rfl rfl rfl rfl (by first | exact rfl | exact byte1 _) rfl ?_ | refine AOps.buildArr Try.hX kn rfl rfl rfl rfl rfl rfl rfl rfl ?_ | refine AOps.indexArr Try.hX kn rfl rfl rfl rfl rfl rfl rfl rfl rfl rfl rfl rfl ?_ | refine AOps.runP1 Try.hX kn rfl rfl ?_ | (refine AOps.splitT rfl rfl rfl asm (fun h => ?_) <;> (fail_if_success (cases h; done)) <;> rw [h]) | (refine AOps.splitF rfl rfl rfl asm (fun h => ?_) <;> (fail_if_success (cases h; done)) <;> rw [h]) | (refine AOps.split rfl rfl rfl (fun h => ?_) (fun h => ?_) <;> (fail_if_success (cases h; done)) <;> rw [h]) | refine AOps.drawn (by kernel_rfl) ?_)
    all_goals
      show (_ : CV) = _
      clear hf
      refine congrArg CV.bool ?_
      (try generalize (encVls args).length = L1 at *)
      (try generalize (encTys types).length = L2 at *)
      (try generalize (encNds code).length = L3 at *)
      rw [Bool.eq_iff_iff]
      (try simp_all) <;> (try omega)
  · refine QCalls.of Try.func141 rfl (fun args w => Try.call141 args w) (Nat.le_of_ble_eq_true rfl) [(0, .c (encVl (.mk k n a s args types code))), (1, .c (.bool true)), (2, .c (.bool true)), (3, .c (.bool true)), (4, .c (.int .i64 na)), (5, .c (.int .i64 nt)), (6, .c (.bool true))] rfl fun β hβ => ?_; have hf := Try.func141
    repeat' (first | refine AK.runP Try.hX Try.mixed 300 rfl ?_ | refine AK.condTe rfl asm ?_ | refine AK.condFe rfl asm ?_ | (refine AK.condS rfl (fun h => ?_) (fun h => ?_) <;> first | (cases h; done) | rw [h] | skip) | refine AK.retQ Try.hX hf rfl rfl ?_ | refine AK.region Try.mixed rfl ?_ | refine AOps.done ?_ | refine AOps.runS Try.hX kn rfl ?_ | refine AOps.box kn rfl rfl rfl rfl rfl rfl ?_ | refine AOps.alloc Try.hX kn rfl rfl rfl rfl rfl rfl rfl ?_ | refine AOps.store Try.hX kn rfl rfl rfl rfl rfl rfl rfl rfl rfl rfl rfl ?_ | refine AOps.buildSlice Try.hX kn rfl rfl rfl rfl rfl rfl rfl rfl rfl rfl rfl rfl ?_ | refine AOps.append Try.hX kn rfl rfl rfl rfl rfl rfl rfl rfl rfl rfl rfl rfl rfl rfl rfl rfl rfl rfl rfl rfl rfl ?_ ?_ | refine AOps.toStr Try.hX kn rfl rfl rfl rfl rfl rfl rfl rfl rfl rfl rfl (by first | exact rfl | exact byte1 _) rfl ?_ | refine AOps.buildArr Try.hX kn rfl rfl rfl rfl rfl rfl rfl rfl ?_ | refine AOps.indexArr Try.hX kn rfl rfl rfl rfl rfl rfl rfl rfl rfl rfl rfl rfl ?_ | refine AOps.runP1 Try.hX kn rfl rfl ?_ | (refine AOps.splitT rfl rfl rfl asm (fun h => ?_) <;> (fail_if_success (cases h; done)) <;> rw [h]) | (refine AOps.splitF rfl rfl rfl asm (fun h => ?_) <;> (fail_if_success (cases h; done)) <;> rw [h]) | (refine AOps.split rfl rfl rfl (fun h => ?_) (fun h => ?_) <;> (fail_if_success (cases h; done)) <;> rw [h]) | refine AOps.drawn (by kernel_rfl) ?_)
    all_goals
      show (_ : CV) = _
      clear hf
      refine congrArg CV.bool ?_
      (try generalize (encVls args).length = L1 at *)
      (try generalize (encTys types).length = L2 at *)
      (try generalize (encNds code).length = L3 at *)
      rw [Bool.eq_iff_iff]
      (try simp_all) <;> (try omega)

set_option maxHeartbeats 0 in
theorem Order_calls : ∀ (v w : Vl) (t : Ty), tComp t = true → tBad t = false → vHas v t = true → vHas w t = true → vlSize v ≤ 1048577 → QCalls Try.prog Try.X 113 [encVl v, encVl w] (.int .i64 (rOrd v w))
  | .mk k n a s args types code, .mk k' n' a' s' args' types' code', t, htc, hb, hv, hw, hsz => by
    simp only [vlSize] at hsz
    have hl1 := vlsSize_len args
    have hargs := ord_args htc hb hv hw
    have hkk : k' = k := by rw [(vHas_head hv).1, (vHas_head hw).1]
    subst hkk
    clear hv hw
    have hin : ∀ x ∈ args, ∀ y u, tComp u = true → tBad u = false → vHas x u = true → vHas y u = true → QCalls Try.prog Try.X 113 [encVl x, encVl y] (.int .i64 (rOrd x y)) := fun x hx y u h1 h2 h3 h4 => Order_calls x y u h1 h2 h3 h4 (by have := vlsSize_mem hx; omega)
    rw [rOrd_mk]
    unfold ordN at *
    by_cases c9 : k' = 9
    · subst c9
      simp only [if_true] at *
      rw [← encVls_length, ← encVls_length args']
      by_cases c1 : (((encVls args).length : Nat) : Int) < (((encVls args').length : Nat) : Int)
      · rw [if_pos (.inl c1)]
        have e1 : decide ((((encVls args).length : Nat) : Int) < (((encVls args').length : Nat) : Int)) = true := decide_eq_true c1
        clear hargs
        refine QCalls.of Try.func113 rfl (fun args w => Try.call113 args w) (Nat.le_of_ble_eq_true rfl) [(0, .c (encVl (.mk 9 n a s args types code))), (1, .c (encVl (.mk 9 n' a' s' args' types' code')))] rfl fun β hβ => ?_; have hf := Try.func113
        exact dq
      have e1 : decide ((((encVls args).length : Nat) : Int) < (((encVls args').length : Nat) : Int)) = false := decide_eq_false c1
      by_cases c2 : Op.bytesLess s s' = true
      · rw [if_pos (.inr c2)]
        clear hargs
        refine QCalls.of Try.func113 rfl (fun args w => Try.call113 args w) (Nat.le_of_ble_eq_true rfl) [(0, .c (encVl (.mk 9 n a s args types code))), (1, .c (encVl (.mk 9 n' a' s' args' types' code')))] rfl fun β hβ => ?_; have hf := Try.func113
        exact dq
      rw [if_neg (by rintro (h | h); exact c1 h; exact c2 h)]
      have e2 : Op.bytesLess s s' = false := by simpa using c2
      by_cases c3 : (((encVls args).length : Nat) : Int) > (((encVls args').length : Nat) : Int)
      · rw [if_pos (.inl c3)]
        have e3 : decide ((((encVls args).length : Nat) : Int) > (((encVls args').length : Nat) : Int)) = true := decide_eq_true c3
        clear hargs
        refine QCalls.of Try.func113 rfl (fun args w => Try.call113 args w) (Nat.le_of_ble_eq_true rfl) [(0, .c (encVl (.mk 9 n a s args types code))), (1, .c (encVl (.mk 9 n' a' s' args' types' code')))] rfl fun β hβ => ?_; have hf := Try.func113
        exact dq
      have e3 : decide ((((encVls args).length : Nat) : Int) > (((encVls args').length : Nat) : Int)) = false := decide_eq_false c3
      by_cases c4 : Op.bytesLess s' s = true
      · rw [if_pos (.inr c4)]
        have e4 : (!(Op.bytesLess s s' || s == s')) = true := by rw [strGt]; exact c4
        clear hargs
        refine QCalls.of Try.func113 rfl (fun args w => Try.call113 args w) (Nat.le_of_ble_eq_true rfl) [(0, .c (encVl (.mk 9 n a s args types code))), (1, .c (encVl (.mk 9 n' a' s' args' types' code')))] rfl fun β hβ => ?_; have hf := Try.func113
        exact dq
      rw [if_neg (by rintro (h | h); exact c3 h; exact c4 h)]
      have e4 : (!(Op.bytesLess s s' || s == s')) = false := by rw [strGt]; simpa using c4
      obtain ⟨ts, hz1, hz2, hlen⟩ := hargs (by first | omega | (simp only [encVls_length] at c1 c3; omega))
      clear hargs
      refine QCalls.of Try.func113 rfl (fun args w => Try.call113 args w) (Nat.le_of_ble_eq_true rfl) [(0, .c (encVl (.mk 9 n a s args types code))), (1, .c (encVl (.mk 9 n' a' s' args' types' code')))] rfl fun β hβ => ?_; have hf := Try.func113
      repeat' (first | refine AK.runP Try.hX Try.mixed 300 rfl ?_ | refine AK.condTe rfl asm ?_ | refine AK.condFe rfl asm ?_ | (refine AK.condS rfl (fun h => ?_) (fun h => ?_) <;> first | (cases h; done) | rw [h] | skip) | refine AK.retQ Try.hX hf rfl rfl ?_ | refine AK.region Try.mixed rfl ?_ | refine AOps.done ?_ | refine AOps.runS Try.hX kn rfl ?_ | refine AOps.box kn rfl rfl rfl rfl rfl rfl ?_ | refine AOps.alloc Try.hX kn rfl rfl rfl rfl rfl rfl rfl ?_ | refine AOps.store Try.hX kn rfl rfl rfl rfl rfl rfl rfl rfl rfl rfl rfl ?_ | refine AOps.buildSlice Try.hX kn rfl rfl rfl rfl rfl rfl rfl rfl rfl rfl rfl rfl ?_ | refine AOps.append Try.hX kn rfl rfl rfl rfl rfl rfl rfl rfl rfl rfl rfl rfl rfl rfl rfl rfl rfl rfl rfl rfl rfl ?_ ?_ | refine AOps.toStr Try.hX kn rfl rfl rfl rfl rfl rfl rfl rfl rfl rfl rfl (by first | exact rfl | exact byte1 _) rfl ?_ | refine AOps.buildArr Try.hX kn rfl rfl rfl rfl rfl rfl rfl rfl ?_ | refine AOps.indexArr Try.hX kn rfl rfl rfl rfl rfl rfl rfl rfl rfl rfl rfl rfl ?_ | refine AOps.runP1 Try.hX kn rfl rfl ?_ | (refine AOps.splitT rfl rfl rfl asm (fun h => ?_) <;> (fail_if_success (cases h; done)) <;> rw [h]) | (refine AOps.splitF rfl rfl rfl asm (fun h => ?_) <;> (fail_if_success (cases h; done)) <;> rw [h]) | (refine AOps.split rfl rfl rfl (fun h => ?_) (fun h => ?_) <;> (fail_if_success (cases h; done)) <;> rw [h]) | refine AOps.drawn (by kernel_rfl) ?_)
      refine AK.loopE (α := Nat) (fun i => i ≤ args.length ∧ rOrds args args' = rOrds (args.drop i) (args'.drop i)) (fun i => args.length - i)
        (fun i => [(45, .c (.int .i64 i)), (44, .c (.int .i64 (encVls args).length)), (2, .ptr 2 0), (3, .ptr 3 0)])
        (fun _ => [(2, [.c (.int .i64 9), .c (.int .i64 n), .c (.int .i64 a), .c (.str s), .c (.sl 7 (encVls args)), .c (.sl 2 (encTys types)), .c (.sl 5 (encNds code))]), (3, [.c (.int .i64 9), .c (.int .i64 n'), .c (.int .i64 a'), .c (.str s'), .c (.sl 7 (encVls args')), .c (.sl 2 (encTys types')), .c (.sl 5 (encNds code'))])]) (fun _ => []) [2, 3] 0
        ⟨by omega, rfl⟩ ⟨.inl rfl, .inl rfl, .inl rfl, .inl rfl, trivial⟩ ⟨rfl, rfl, trivial⟩ trivial rfl rfl rfl ?_
      rintro i ⟨hi, hinv⟩ ih
      rcases get_or args i hi with ⟨x, hx, hm⟩ | he
      · have hcc := vls_lt hx
        obtain ⟨y, hy⟩ : ∃ y, args'[i]? = some y := ⟨args'[i]'(by have := lt_of_get hx; omega), by simp⟩
        obtain ⟨u, u1, u2, u3, u4⟩ := hasZ_get hz1 hx
        obtain ⟨u', u1', u2', u3', u4'⟩ := hasZ_get hz2 hy
        obtain rfl : u = u' := by rw [u1] at u1'; cases u1'; rfl
        have hq := hin x hm y u u3 u4 u2 u2'
        rw [drop_at hx, drop_at hy, rOrds_cons] at hinv
        by_cases z : rOrd x y = 0
        · rw [if_pos z] at hinv
          rw [z] at hq
          obtain ⟨x1, x2, x3, x4, x5, x6, x7⟩ := x
          obtain ⟨y1, y2, y3, y4, y5, y6, y7⟩ := y
          repeat' (first | refine AK.runP Try.hX Try.mixed 300 rfl ?_ | refine AK.condTe rfl asm ?_ | refine AK.condFe rfl asm ?_ | (refine AK.condS rfl (fun h => ?_) (fun h => ?_) <;> first | (cases h; done) | rw [h] | skip) | refine AK.retQ Try.hX hf rfl rfl ?_ | refine AK.region Try.mixed rfl ?_ | refine AOps.done ?_ | refine AOps.runS Try.hX kn rfl ?_ | refine AOps.index Try.hX rfl rfl rfl rfl rfl rfl rfl rfl rfl rfl (i) rfl (vls_at hx) rfl ?_ | refine AOps.index Try.hX rfl rfl rfl rfl rfl rfl rfl rfl rfl rfl (i) rfl (vls_at hy) rfl ?_ | refine AOps.callq kn rfl rfl rfl rfl (hq) ?_ | refine AOps.box kn rfl rfl rfl rfl rfl rfl ?_ | refine AOps.alloc Try.hX kn rfl rfl rfl rfl rfl rfl rfl ?_ | refine AOps.store Try.hX kn rfl rfl rfl rfl rfl rfl rfl rfl rfl rfl rfl ?_ | refine AOps.buildSlice Try.hX kn rfl rfl rfl rfl rfl rfl rfl rfl rfl rfl rfl rfl ?_ | refine AOps.append Try.hX kn rfl rfl rfl rfl rfl rfl rfl rfl rfl rfl rfl rfl rfl rfl rfl rfl rfl rfl rfl rfl rfl ?_ ?_ | refine AOps.toStr Try.hX kn rfl rfl rfl rfl rfl rfl rfl rfl rfl rfl rfl (by first | exact rfl | exact byte1 _) rfl ?_ | refine AOps.buildArr Try.hX kn rfl rfl rfl rfl rfl rfl rfl rfl ?_ | refine AOps.indexArr Try.hX kn rfl rfl rfl rfl rfl rfl rfl rfl rfl rfl rfl rfl ?_ | refine AOps.runP1 Try.hX kn rfl rfl ?_ | (refine AOps.splitT rfl rfl rfl asm (fun h => ?_) <;> (fail_if_success (cases h; done)) <;> rw [h]) | (refine AOps.splitF rfl rfl rfl asm (fun h => ?_) <;> (fail_if_success (cases h; done)) <;> rw [h]) | (refine AOps.split rfl rfl rfl (fun h => ?_) (fun h => ?_) <;> (fail_if_success (cases h; done)) <;> rw [h]) | refine AOps.drawn (by kernel_rfl) ?_)
          exact AK.again (ih (i + 1) ⟨lt_of_get hx, hinv⟩ (by have := lt_of_get hx; omega)) ⟨.inl (succ64 (by have := lt_of_get hx; omega)), .inl rfl, .inl rfl, .inl rfl, trivial⟩ ⟨rfl, rfl, trivial⟩ trivial rfl rfl rfl
        · rw [if_neg z] at hinv
          have ez : (rOrd x y != 0) = true := by simpa using z
          rw [hinv]
          clear ih hinv
          generalize rOrd x y = q at *
          obtain ⟨x1, x2, x3, x4, x5, x6, x7⟩ := x
          obtain ⟨y1, y2, y3, y4, y5, y6, y7⟩ := y
          have tsr1 := vls_at hx
          have tsr2 := vls_at hy
          exact dq
      · have hcc := vls_end he
        have h0 : rOrds args args' = 0 := by rw [hinv, he, List.drop_length, rOrds_nil]
        rw [h0]
        clear ih hinv h0
        exact dq
    · simp only [if_neg c9] at *
      have e9 : (k' == 9) = false := by simpa using c9
      by_cases c1 : n < n'
      · rw [if_pos (.inl c1)]
        have e1 : decide (n < n') = true := decide_eq_true c1
        clear hargs
        refine QCalls.of Try.func113 rfl (fun args w => Try.call113 args w) (Nat.le_of_ble_eq_true rfl) [(0, .c (encVl (.mk k' n a s args types code))), (1, .c (encVl (.mk k' n' a' s' args' types' code')))] rfl fun β hβ => ?_; have hf := Try.func113
        exact dq
      have e1 : decide (n < n') = false := decide_eq_false c1
      by_cases c2 : Op.bytesLess s s' = true
      · rw [if_pos (.inr c2)]
        clear hargs
        refine QCalls.of Try.func113 rfl (fun args w => Try.call113 args w) (Nat.le_of_ble_eq_true rfl) [(0, .c (encVl (.mk k' n a s args types code))), (1, .c (encVl (.mk k' n' a' s' args' types' code')))] rfl fun β hβ => ?_; have hf := Try.func113
        exact dq
      rw [if_neg (by rintro (h | h); exact c1 h; exact c2 h)]
      have e2 : Op.bytesLess s s' = false := by simpa using c2
      by_cases c3 : n > n'
      · rw [if_pos (.inl c3)]
        have e3 : decide (n > n') = true := decide_eq_true c3
        clear hargs
        refine QCalls.of Try.func113 rfl (fun args w => Try.call113 args w) (Nat.le_of_ble_eq_true rfl) [(0, .c (encVl (.mk k' n a s args types code))), (1, .c (encVl (.mk k' n' a' s' args' types' code')))] rfl fun β hβ => ?_; have hf := Try.func113
        exact dq
      have e3 : decide (n > n') = false := decide_eq_false c3
      by_cases c4 : Op.bytesLess s' s = true
      · rw [if_pos (.inr c4)]
        have e4 : (!(Op.bytesLess s s' || s == s')) = true := by rw [strGt]; exact c4
        clear hargs
        refine QCalls.of Try.func113 rfl (fun args w => Try.call113 args w) (Nat.le_of_ble_eq_true rfl) [(0, .c (encVl (.mk k' n a s args types code))), (1, .c (encVl (.mk k' n' a' s' args' types' code')))] rfl fun β hβ => ?_; have hf := Try.func113
        exact dq
      rw [if_neg (by rintro (h | h); exact c3 h; exact c4 h)]
      have e4 : (!(Op.bytesLess s s' || s == s')) = false := by rw [strGt]; simpa using c4
      obtain ⟨ts, hz1, hz2, hlen⟩ := hargs (by first | omega | (simp only [encVls_length] at c1 c3; omega))
      clear hargs
      refine QCalls.of Try.func113 rfl (fun args w => Try.call113 args w) (Nat.le_of_ble_eq_true rfl) [(0, .c (encVl (.mk k' n a s args types code))), (1, .c (encVl (.mk k' n' a' s' args' types' code')))] rfl fun β hβ => ?_; have hf := Try.func113
      repeat' (first | refine AK.runP Try.hX Try.mixed 300 rfl ?_ | refine AK.condTe rfl asm ?_ | refine AK.condFe rfl asm ?_ | (refine AK.condS rfl (fun h => ?_) (fun h => ?_) <;> first | (cases h; done) | rw [h] | skip) | refine AK.retQ Try.hX hf rfl rfl ?_ | refine AK.region Try.mixed rfl ?_ | refine AOps.done ?_ | refine AOps.runS Try.hX kn rfl ?_ | refine AOps.box kn rfl rfl rfl rfl rfl rfl ?_ | refine AOps.alloc Try.hX kn rfl rfl rfl rfl rfl rfl rfl ?_ | refine AOps.store Try.hX kn rfl rfl rfl rfl rfl rfl rfl rfl rfl rfl rfl ?_ | refine AOps.buildSlice Try.hX kn rfl rfl rfl rfl rfl rfl rfl rfl rfl rfl rfl rfl ?_ | refine AOps.append Try.hX kn rfl rfl rfl rfl rfl rfl rfl rfl rfl rfl rfl rfl rfl rfl rfl rfl rfl rfl rfl rfl rfl ?_ ?_ | refine AOps.toStr Try.hX kn rfl rfl rfl rfl rfl rfl rfl rfl rfl rfl rfl (by first | exact rfl | exact byte1 _) rfl ?_ | refine AOps.buildArr Try.hX kn rfl rfl rfl rfl rfl rfl rfl rfl ?_ | refine AOps.indexArr Try.hX kn rfl rfl rfl rfl rfl rfl rfl rfl rfl rfl rfl rfl ?_ | refine AOps.runP1 Try.hX kn rfl rfl ?_ | (refine AOps.splitT rfl rfl rfl asm (fun h => ?_) <;> (fail_if_success (cases h; done)) <;> rw [h]) | (refine AOps.splitF rfl rfl rfl asm (fun h => ?_) <;> (fail_if_success (cases h; done)) <;> rw [h]) | (refine AOps.split rfl rfl rfl (fun h => ?_) (fun h => ?_) <;> (fail_if_success (cases h; done)) <;> rw [h]) | refine AOps.drawn (by kernel_rfl) ?_)
      refine AK.loopE (α := Nat) (fun i => i ≤ args.length ∧ rOrds args args' = rOrds (args.drop i) (args'.drop i)) (fun i => args.length - i)
        (fun i => [(45, .c (.int .i64 i)), (44, .c (.int .i64 (encVls args).length)), (2, .ptr 2 0), (3, .ptr 3 0)])
        (fun _ => [(2, [.c (.int .i64 k'), .c (.int .i64 n), .c (.int .i64 a), .c (.str s), .c (.sl 7 (encVls args)), .c (.sl 2 (encTys types)), .c (.sl 5 (encNds code))]), (3, [.c (.int .i64 k'), .c (.int .i64 n'), .c (.int .i64 a'), .c (.str s'), .c (.sl 7 (encVls args')), .c (.sl 2 (encTys types')), .c (.sl 5 (encNds code'))])]) (fun _ => []) [2, 3] 0
        ⟨by omega, rfl⟩ ⟨.inl rfl, .inl rfl, .inl rfl, .inl rfl, trivial⟩ ⟨rfl, rfl, trivial⟩ trivial rfl rfl rfl ?_
      rintro i ⟨hi, hinv⟩ ih
      rcases get_or args i hi with ⟨x, hx, hm⟩ | he
      · have hcc := vls_lt hx
        obtain ⟨y, hy⟩ : ∃ y, args'[i]? = some y := ⟨args'[i]'(by have := lt_of_get hx; omega), by simp⟩
        obtain ⟨u, u1, u2, u3, u4⟩ := hasZ_get hz1 hx
        obtain ⟨u', u1', u2', u3', u4'⟩ := hasZ_get hz2 hy
        obtain rfl : u = u' := by rw [u1] at u1'; cases u1'; rfl
        have hq := hin x hm y u u3 u4 u2 u2'
        rw [drop_at hx, drop_at hy, rOrds_cons] at hinv
        by_cases z : rOrd x y = 0
        · rw [if_pos z] at hinv
          rw [z] at hq
          obtain ⟨x1, x2, x3, x4, x5, x6, x7⟩ := x
          obtain ⟨y1, y2, y3, y4, y5, y6, y7⟩ := y
          repeat' (first | refine AK.runP Try.hX Try.mixed 300 rfl ?_ | refine AK.condTe rfl asm ?_ | refine AK.condFe rfl asm ?_ | (refine AK.condS rfl (fun h => ?_) (fun h => ?_) <;> first | (cases h; done) | rw [h] | skip) | refine AK.retQ Try.hX hf rfl rfl ?_ | refine AK.region Try.mixed rfl ?_ | refine AOps.done ?_ | refine AOps.runS Try.hX kn rfl ?_ | refine AOps.index Try.hX rfl rfl rfl rfl rfl rfl rfl rfl rfl rfl (i) rfl (vls_at hx) rfl ?_ | refine AOps.index Try.hX rfl rfl rfl rfl rfl rfl rfl rfl rfl rfl (i) rfl (vls_at hy) rfl ?_ | refine AOps.callq kn rfl rfl rfl rfl (hq) ?_ | refine AOps.box kn rfl rfl rfl rfl rfl rfl ?_ | refine AOps.alloc Try.hX kn rfl rfl rfl rfl rfl rfl rfl ?_ | refine AOps.store Try.hX kn rfl rfl rfl rfl rfl rfl rfl rfl rfl rfl rfl ?_ | refine AOps.buildSlice Try.hX kn rfl rfl rfl rfl rfl rfl rfl rfl rfl rfl rfl rfl ?_ | refine AOps.append Try.hX kn rfl rfl rfl rfl rfl rfl rfl rfl rfl rfl rfl rfl rfl rfl rfl rfl rfl rfl rfl rfl rfl ?_ ?_ | refine AOps.toStr Try.hX kn rfl rfl rfl rfl rfl rfl rfl rfl rfl rfl rfl (by first | exact rfl | exact byte1 _) rfl ?_ | refine AOps.buildArr Try.hX kn rfl rfl rfl rfl rfl rfl rfl rfl ?_ | refine AOps.indexArr Try.hX kn rfl rfl rfl rfl rfl rfl rfl rfl rfl rfl rfl rfl ?_ | refine AOps.runP1 Try.hX kn rfl rfl ?_ | (refine AOps.splitT rfl rfl rfl asm (fun h => ?_) <;> (fail_if_success (cases h; done)) <;> rw [h]) | (refine AOps.splitF rfl rfl rfl asm (fun h => ?_) <;> (fail_if_success (cases h; done)) <;> rw [h]) | (refine AOps.split rfl rfl rfl (fun h => ?_) (fun h => ?_) <;> (fail_if_success (cases h; done)) <;> rw [h]) | refine AOps.drawn (by kernel_rfl) ?_)
          exact AK.again (ih (i + 1) ⟨lt_of_get hx, hinv⟩ (by have := lt_of_get hx; omega)) ⟨.inl (succ64 (by have := lt_of_get hx; omega)), .inl rfl, .inl rfl, .inl rfl, trivial⟩ ⟨rfl, rfl, trivial⟩ trivial rfl rfl rfl
        · rw [if_neg z] at hinv
          have ez : (rOrd x y != 0) = true := by simpa using z
          rw [hinv]
          clear ih hinv
          generalize rOrd x y = q at *
          obtain ⟨x1, x2, x3, x4, x5, x6, x7⟩ := x
          obtain ⟨y1, y2, y3, y4, y5, y6, y7⟩ := y
          have tsr3 := vls_at hx
          have tsr4 := vls_at hy
          exact dq
      · have hcc := vls_end he
        have h0 : rOrds args args' = 0 := by rw [hinv, he, List.drop_length, rOrds_nil]
        rw [h0]
        clear ih hinv h0
        exact dq
termination_by v => SizeOf.sizeOf v
decreasing_by
  have := List.sizeOf_lt_of_mem hx
  simp at this ⊢; omega
end Go.Proofs
