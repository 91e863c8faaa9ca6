/- What the small functions of package check answer: put, one, same, merge, kinds, shape, sum, mints, and slices.Clone over types. What shape, sum, mints and fits of package check answer. What fits of package check answers. What slices.Delete of one row and slices.Insert of one row do to rows of api.Type, said of the cells. What slices.Clone, slices.Delete and slices.Insert over types give, as contracts; what move of package check answers. What move of package check answers. The types that a step leads to are small. -/
import Derived.Test.YtegjgkkcgalonaaDoorKind9
import Derived.Test.YtegjgkkcgalonaaDoorCtx
import Derived.Test.YtegjgkkcgalonaaDoorLibD
import Derived.WalkKit
import Derived.KernelRfl
import Derived.Deep.LoopGhost
import Derived.Deep.RegionLaw
import Derived.Lib.Walk
import Derived.Lib.SliceRun
import Derived.Lib.AppendZeros
import Derived.Laws.IdiomCopy
import Derived.Laws.Externs
import Derived.Shelf.RegionOpenPlain
-- WK
set_option linter.unusedVariables false
set_option linter.unusedSimpArgs false
namespace Go.Proofs
open Go.Abs
attribute [local irreducible] AK AOps QCalls ECalls

/-- What a function of package check answers, as it lies there: beside an error it may be anything. -/
def encCR (r : CR) : CV := if r.2 = 0 then .tup [.agg [.sl 2 (encTys r.1.1), .bool r.1.2], .int .i64 0] else .tup [.agg [.any, .any], .int .i64 r.2]
/-- .. and exactly. -/
def encCX (r : CR) : CV := .tup [.agg [.sl 2 (encTys r.1.1), .bool r.1.2], .int .i64 r.2]
theorem encCR_ok (s : List Ty) (b : Bool) : encCR ((s, b), 0) = .tup [.agg [.sl 2 (encTys s), .bool b], .int .i64 0] := rfl
theorem encCR_ok' (s : List Ty) : encCR (cOk s) = .tup [.agg [.sl 2 (encTys s), .bool false], .int .i64 0] := rfl
theorem encCR_bad {e : Int} (h : e ≠ 0) : encCR (cBad e) = .tup [.agg [.any, .any], .int .i64 e] := by unfold encCR cBad; rw [if_neg h]
theorem encCX_bad (e : Int) : encCX (cBad e) = .tup [.agg [.sl 2 [], .bool false], .int .i64 e] := rfl
theorem wk_X {r : CR} : Wk (encCX r) (encCR r) := by
  unfold encCX encCR
  by_cases h : r.2 = 0
  · rw [if_pos h, h]; exact Wk.refl _
  · rw [if_neg h]; exact wk_bad rfl rfl
theorem encTys_drop : ∀ (n : Nat) (l : List Ty), (encTys l).drop n = encTys (l.drop n)
  | 0, l => rfl
  | n + 1, [] => rfl
  | n + 1, x :: l => by simp only [encTys, List.drop_succ_cons, encTys_drop n l]

theorem one_calls (T : Int) (l : List Ty) : QCalls Tryd.prog Tryd.X 50 [.int .i64 T, .sl 2 (encTys l)] (encTy (.mk T l)) := by
  refine QCalls.of Tryd.func50 rfl (fun args w => Tryd.call50 args w) (Nat.le_of_ble_eq_true rfl) [(0, .c (.int .i64 T)), (1, .c (.sl 2 (encTys l)))] rfl fun β hβ => ?_; have hf := Tryd.func50
  repeat' (first | refine st ?_ | refine uW hf rfl rfl ?_)
  all_goals exact Wk.refl _
theorem one0_calls (T : Int) : QCalls Tryd.prog Tryd.X 50 [.int .i64 T, .sl 0 []] (encTy (.mk T [])) :=
  QCalls.wk (by simp only [WkL]; exact ⟨Wk.refl _, by unfold Wk; exact .inr ⟨rfl, rfl⟩, trivial⟩) (Wk.refl _) (one_calls T [])

set_option maxHeartbeats 0 in
/-- slices.Clone, as a slice with room of its own. -/
theorem cloneTy_calls (l : List Ty) (hl : l.length ≤ 1099511627776) : ECalls Tryd.prog Tryd.X 13 [.v (.c (.sl 2 (encTys l)))] [.own 2 (encTys l)] [] := by
  cases l with
  | nil =>
    refine ECalls.ofL Tryd.func13 rfl (fun args w => Tryd.call13 args w) (Nat.le_of_ble_eq_true rfl) [(0, .c (.sl 2 []))] [] [] [] rfl rfl fun β => ?_; have hf := Tryd.func13
    repeat' (first | refine st ?_ | (refine AK.condS rfl (fun h => ?_) (fun h => ?_) <;> first | (cases h; done) | rw [h] | skip) | refine AK.condU rfl ?_ ?_ | refine AK.retE Tryd.hX hf rfl rfl rfl rfl ?_ (by with_reducible rfl) | refine AK.retE Tryd.hX hf rfl rfl rfl rfl ?_ ?_ | refine AK.endE Tryd.hX hf rfl rfl rfl rfl ?_ (by with_reducible rfl) | refine AK.endE Tryd.hX hf rfl rfl rfl rfl ?_ ?_ | (refine uA rfl ?_ ?_ <;> (try (show (_ : Nat) * _ ≤ _; dsimp only))))
    all_goals first | exact rfl | (show _ ≤ _; decide)
  | cons x l =>
    have h1 := encTys_length l
    simp only [List.length_cons] at hl
    refine ECalls.ofL Tryd.func13 rfl (fun args w => Tryd.call13 args w) (Nat.le_of_ble_eq_true rfl) [(0, .c (.sl 2 (encTy x :: encTys l)))] [] [] [] rfl rfl fun β => ?_; have hf := Tryd.func13
    repeat' (first | refine st ?_ | (refine AK.condS rfl (fun h => ?_) (fun h => ?_) <;> first | (cases h; done) | rw [h] | skip) | refine AK.condU rfl ?_ ?_ | refine AK.retE Tryd.hX hf rfl rfl rfl rfl ?_ (by with_reducible rfl) | refine AK.retE Tryd.hX hf rfl rfl rfl rfl ?_ ?_ | refine AK.endE Tryd.hX hf rfl rfl rfl rfl ?_ (by with_reducible rfl) | refine AK.endE Tryd.hX hf rfl rfl rfl rfl ?_ ?_ | (refine uA rfl ?_ ?_ <;> (try (show (_ : Nat) * _ ≤ _; dsimp only))))
    all_goals first | exact rfl | (show _ ≤ _; simp only [List.length_cons, List.length_nil]; omega)

set_option maxHeartbeats 0 in
theorem cput_calls (s l : List Ty) (hs : s.length ≤ 20000000000 := by first | omega | (simp only [List.length_cons, List.length_nil] at *; omega)) (hl : l.length ≤ 20000000000 := by simp) : QCalls Tryd.prog Tryd.X 34 [.sl 2 (encTys s), .sl 2 (encTys l)] (encCR (cOk (l ++ s))) := by
  rw [encCR_ok', encTys_append]
  have h1 := cloneTy_calls l (by omega)
  have h2 := encTys_length l
  have h3 := encTys_length s
  refine QCalls.of Tryd.func34 rfl (fun args w => Tryd.call34 args w) (Nat.le_of_ble_eq_true rfl) [(0, .c (.sl 2 (encTys s))), (1, .c (.sl 2 (encTys l)))] rfl fun β hβ => ?_; have hf := Tryd.func34
  repeat' (first | refine st ?_ | refine uW hf rfl rfl ?_ | refine AOps.calle kn rfl rfl (h1) rfl (by (repeat' (first | exact rfl | exact trivial | refine ⟨_, _, rfl, ?_, ?_⟩ | refine ⟨_, _, _, rfl, rfl, ?_, ?_⟩)); done) rfl rfl rfl rfl rfl rfl rfl rfl rfl rfl rfl rfl rfl rfl ?_ | (refine uA rfl ?_ ?_ <;> (try (show (_ : Nat) * _ ≤ _; dsimp only))))
  all_goals first | exact Wk.refl _ | (show _ ≤ _; omega)
theorem cput0_calls (s : List Ty) (hs : s.length ≤ 20000000000 := by first | omega | (simp only [List.length_cons, List.length_nil] at *; omega)) : QCalls Tryd.prog Tryd.X 34 [.sl 2 (encTys s), .sl 0 []] (encCR (cOk s)) :=
  QCalls.wk (by simp only [WkL]; exact ⟨Wk.refl _, by unfold Wk; exact .inr ⟨rfl, rfl⟩, trivial⟩) (Wk.refl _) (cput_calls s [] hs (by simp))

theorem csame_calls (a b : List Ty) (ha : sOk a) (hl : a.length ≤ 20000000000) : QCalls Tryd.prog Tryd.X 67 [.sl 2 (encTys a), .sl 2 (encTys b)] (.bool (tysSame a b)) := by
  have h1 := eqFuncTy_calls a b tySame 16 [] (fun x hx y _ => Same_calls x y (by have := (ha x hx).2; omega)) (by omega)
  rw [eqBy_tys] at h1
  refine QCalls.of Tryd.func67 rfl (fun args w => Tryd.call67 args w) (Nat.le_of_ble_eq_true rfl) [(0, .c (.sl 2 (encTys a))), (1, .c (.sl 2 (encTys b)))] rfl fun β hβ => ?_; have hf := Tryd.func67
  repeat' (first | refine st ?_ | refine uW hf rfl rfl ?_ | refine uC rfl h1 ?_)
  all_goals exact Wk.refl _

set_option maxHeartbeats 0 in
theorem cmerge_calls (a b : CR) (ha : sOk a.1.1) (hl : a.1.1.length ≤ 20000000000) : QCalls Tryd.prog Tryd.X 52
    [.agg [.sl 2 (encTys a.1.1), .bool a.1.2], .int .i64 a.2, .agg [.sl 2 (encTys b.1.1), .bool b.1.2], .int .i64 b.2] (encCX (cMerge a b)) := by
  have h1 := csame_calls a.1.1 b.1.1 ha hl
  obtain ⟨⟨s, p⟩, e⟩ := a
  obtain ⟨⟨t, q⟩, f⟩ := b
  simp only at h1 ha hl ⊢
  unfold cMerge
  dsimp only
  by_cases he : e ≠ 0
  · rw [if_pos he, encCX_bad]
    have e1 : (e != 0) = true := by simpa using he
    clear h1
    refine QCalls.of Tryd.func52 rfl (fun args w => Tryd.call52 args w) (Nat.le_of_ble_eq_true rfl) [(0, .c (.agg [.sl 2 (encTys s), .bool p])), (1, .c (.int .i64 e)), (2, .c (.agg [.sl 2 (encTys t), .bool q])), (3, .c (.int .i64 f))] rfl fun β hβ => ?_; have hf := Tryd.func52
    repeat' (first | refine st ?_ | (refine AK.condS rfl (fun h => ?_) (fun h => ?_) <;> first | (cases h; done) | rw [h] | skip) | refine uW hf rfl rfl ?_ | ((first | refine AOps.splitT rfl rfl rfl asm (fun h => ?_) | refine AOps.splitF rfl rfl rfl asm (fun h => ?_) | refine AOps.split rfl rfl rfl (fun h => ?_) (fun h => ?_)) <;> (fail_if_success (cases h; done)) <;> rw [h]))
    all_goals first | exact Wk.refl _ | exact wk_nil2
  rw [if_neg he]
  obtain rfl : e = 0 := by simpa using he
  by_cases hf0 : f ≠ 0
  · rw [if_pos hf0, encCX_bad]
    have e1 : (f != 0) = true := by simpa using hf0
    clear h1
    refine QCalls.of Tryd.func52 rfl (fun args w => Tryd.call52 args w) (Nat.le_of_ble_eq_true rfl) [(0, .c (.agg [.sl 2 (encTys s), .bool p])), (1, .c (.int .i64 0)), (2, .c (.agg [.sl 2 (encTys t), .bool q])), (3, .c (.int .i64 f))] rfl fun β hβ => ?_; have hf := Tryd.func52
    repeat' (first | refine st ?_ | (refine AK.condS rfl (fun h => ?_) (fun h => ?_) <;> first | (cases h; done) | rw [h] | skip) | refine uW hf rfl rfl ?_ | ((first | refine AOps.splitT rfl rfl rfl asm (fun h => ?_) | refine AOps.splitF rfl rfl rfl asm (fun h => ?_) | refine AOps.split rfl rfl rfl (fun h => ?_) (fun h => ?_)) <;> (fail_if_success (cases h; done)) <;> rw [h]))
    all_goals first | exact Wk.refl _ | exact wk_nil2
  rw [if_neg hf0]
  obtain rfl : f = 0 := by simpa using hf0
  cases p with
  | true =>
    rw [if_pos rfl]
    clear h1
    refine QCalls.of Tryd.func52 rfl (fun args w => Tryd.call52 args w) (Nat.le_of_ble_eq_true rfl) [(0, .c (.agg [.sl 2 (encTys s), .bool true])), (1, .c (.int .i64 0)), (2, .c (.agg [.sl 2 (encTys t), .bool q])), (3, .c (.int .i64 0))] rfl fun β hβ => ?_; have hf := Tryd.func52
    repeat' (first | refine st ?_ | (refine AK.condS rfl (fun h => ?_) (fun h => ?_) <;> first | (cases h; done) | rw [h] | skip) | refine uW hf rfl rfl ?_ | ((first | refine AOps.splitT rfl rfl rfl asm (fun h => ?_) | refine AOps.splitF rfl rfl rfl asm (fun h => ?_) | refine AOps.split rfl rfl rfl (fun h => ?_) (fun h => ?_)) <;> (fail_if_success (cases h; done)) <;> rw [h]))
    all_goals first | exact Wk.refl _ | exact wk_nil2
  | false =>
  rw [if_neg (by decide)]
  cases q with
  | true =>
    rw [if_pos (.inl rfl)]
    clear h1
    refine QCalls.of Tryd.func52 rfl (fun args w => Tryd.call52 args w) (Nat.le_of_ble_eq_true rfl) [(0, .c (.agg [.sl 2 (encTys s), .bool false])), (1, .c (.int .i64 0)), (2, .c (.agg [.sl 2 (encTys t), .bool true])), (3, .c (.int .i64 0))] rfl fun β hβ => ?_; have hf := Tryd.func52
    repeat' (first | refine st ?_ | (refine AK.condS rfl (fun h => ?_) (fun h => ?_) <;> first | (cases h; done) | rw [h] | skip) | refine uW hf rfl rfl ?_ | ((first | refine AOps.splitT rfl rfl rfl asm (fun h => ?_) | refine AOps.splitF rfl rfl rfl asm (fun h => ?_) | refine AOps.split rfl rfl rfl (fun h => ?_) (fun h => ?_)) <;> (fail_if_success (cases h; done)) <;> rw [h]))
    all_goals first | exact Wk.refl _ | exact wk_nil2
  | false =>
  cases hs : tysSame s t with
  | true =>
    rw [if_pos (.inr rfl)]
    rw [hs] at h1
    refine QCalls.of Tryd.func52 rfl (fun args w => Tryd.call52 args w) (Nat.le_of_ble_eq_true rfl) [(0, .c (.agg [.sl 2 (encTys s), .bool false])), (1, .c (.int .i64 0)), (2, .c (.agg [.sl 2 (encTys t), .bool false])), (3, .c (.int .i64 0))] rfl fun β hβ => ?_; have hf := Tryd.func52
    repeat' (first | refine st ?_ | (refine AK.condS rfl (fun h => ?_) (fun h => ?_) <;> first | (cases h; done) | rw [h] | skip) | refine uW hf rfl rfl ?_ | refine uC rfl h1 ?_ | ((first | refine AOps.splitT rfl rfl rfl asm (fun h => ?_) | refine AOps.splitF rfl rfl rfl asm (fun h => ?_) | refine AOps.split rfl rfl rfl (fun h => ?_) (fun h => ?_)) <;> (fail_if_success (cases h; done)) <;> rw [h]))
    all_goals first | exact Wk.refl _ | exact wk_nil2
  | false =>
    rw [if_neg (by simp), encCX_bad]
    rw [hs] at h1
    refine QCalls.of Tryd.func52 rfl (fun args w => Tryd.call52 args w) (Nat.le_of_ble_eq_true rfl) [(0, .c (.agg [.sl 2 (encTys s), .bool false])), (1, .c (.int .i64 0)), (2, .c (.agg [.sl 2 (encTys t), .bool false])), (3, .c (.int .i64 0))] rfl fun β hβ => ?_; have hf := Tryd.func52
    repeat' (first | refine st ?_ | (refine AK.condS rfl (fun h => ?_) (fun h => ?_) <;> first | (cases h; done) | rw [h] | skip) | refine uW hf rfl rfl ?_ | refine uC rfl h1 ?_ | ((first | refine AOps.splitT rfl rfl rfl asm (fun h => ?_) | refine AOps.splitF rfl rfl rfl asm (fun h => ?_) | refine AOps.split rfl rfl rfl (fun h => ?_) (fun h => ?_)) <;> (fail_if_success (cases h; done)) <;> rw [h]))
    all_goals first | exact Wk.refl _ | exact wk_nil2

/-- kinds -/
def kOk : List Ty → List Int → Bool
  | _, [] => true
  | [], _ :: _ => false
  | t :: s, k :: l => (decide (k = 0) || decide (tyT t = k)) && kOk s l
theorem kOk_c (T : Int) (us s : List Ty) (k : Int) (l : List Int) : kOk (.mk T us :: s) (k :: l) = ((decide (k = 0) || decide (T = k)) && kOk s l) := rfl
theorem kOk_n (k : Int) (l : List Int) : kOk [] (k :: l) = false := rfl
theorem len_gt (l : List CV) (n : Int) (h : n < ((l.length : Nat) : Int)) : decide (((l.length : Nat) : Int) > n) = true := decide_eq_true h
theorem kOk_short : ∀ (s : List Ty) (l : List Int), s.length < l.length → kOk s l = false
  | _, [], h => by simp at h
  | [], _ :: _, _ => rfl
  | t :: s, k :: l, h => by simp only [kOk, kOk_short s l (by simpa using h), Bool.and_false]
theorem kOk_at {s : List Ty} {l : List Int} {t : Ty} {k : Int} {i : Nat} (h1 : s[i]? = some t) (h2 : l[i]? = some k) : kOk (s.drop i) (l.drop i) = ((decide (k = 0) || decide (tyT t = k)) && kOk (s.drop (i + 1)) (l.drop (i + 1))) := by
  rw [drop_at h1, drop_at h2]; rfl
theorem kOk_end (s : List Ty) : kOk s [] = true := by cases s <;> rfl

set_option maxHeartbeats 0 in
theorem ckinds_calls (s : List Ty) (l : List Int) (hs : s.length ≤ 10000000000 := by first | omega | (simp only [List.length_cons, List.length_nil] at *; omega)) (hl : l.length ≤ 10000000000 := by decide) : QCalls Tryd.prog Tryd.X 51 [.sl 2 (encTys s), .sl 1 (intRows l)] (.bool (kOk s l)) := by
  have z1 := encTys_length s
  have z2 : (intRows l).length = l.length := by simp [intRows]
  by_cases hc : s.length < l.length
  · rw [kOk_short s l hc]
    have e1 : decide ((((encTys s).length : Nat) : Int) < (((intRows l).length : Nat) : Int)) = true := decide_eq_true (by rw [z1, z2]; omega)
    refine QCalls.of Tryd.func51 rfl (fun args w => Tryd.call51 args w) (Nat.le_of_ble_eq_true rfl) [(0, .c (.sl 2 (encTys s))), (1, .c (.sl 1 (intRows l)))] rfl fun β hβ => ?_; have hf := Tryd.func51
    repeat' (first | refine st ?_ | (refine AK.condS rfl (fun h => ?_) (fun h => ?_) <;> first | (cases h; done) | rw [h] | skip) | refine uW hf rfl rfl ?_ | ((first | refine AOps.splitT rfl rfl rfl asm (fun h => ?_) | refine AOps.splitF rfl rfl rfl asm (fun h => ?_) | refine AOps.split rfl rfl rfl (fun h => ?_) (fun h => ?_)) <;> (fail_if_success (cases h; done)) <;> rw [h]))
    all_goals exact Wk.refl _
  have e1 : decide ((((encTys s).length : Nat) : Int) < (((intRows l).length : Nat) : Int)) = false := decide_eq_false (by rw [z1, z2]; omega)
  refine QCalls.of Tryd.func51 rfl (fun args w => Tryd.call51 args w) (Nat.le_of_ble_eq_true rfl) [(0, .c (.sl 2 (encTys s))), (1, .c (.sl 1 (intRows l)))] rfl fun β hβ => ?_; have hf := Tryd.func51
  repeat' (first | refine st ?_ | (refine AK.condS rfl (fun h => ?_) (fun h => ?_) <;> first | (cases h; done) | rw [h] | skip) | refine uW hf rfl rfl ?_ | ((first | refine AOps.splitT rfl rfl rfl asm (fun h => ?_) | refine AOps.splitF rfl rfl rfl asm (fun h => ?_) | refine AOps.split rfl rfl rfl (fun h => ?_) (fun h => ?_)) <;> (fail_if_success (cases h; done)) <;> rw [h]))
  refine AK.loopE (α := Nat) (fun i => i ≤ l.length ∧ kOk s l = kOk (s.drop i) (l.drop i)) (fun i => l.length - i)
    (fun i => [(14, .c (.int .i64 i)), (13, .c (.int .i64 (intRows l).length)), (12, .c (.sl 1 (intRows l))), (0, .c (.sl 2 (encTys s)))]) (fun _ => []) (fun _ => []) [] 0
    ⟨by omega, rfl⟩ ⟨.inl rfl, .inl rfl, .inl rfl, .inl rfl, trivial⟩ trivial trivial rfl rfl rfl ?_
  rintro i ⟨hi, hinv⟩ ih
  rcases get_or l i hi with ⟨k, hk, hm⟩ | he
  · have hc := ints_lt hk
    have h2 := lt_of_get hk
    obtain ⟨t, ht⟩ : ∃ t, s[i]? = some t := ⟨s[i]'(by omega), by simp⟩
    rw [kOk_at ht hk] at hinv
    obtain ⟨T, us⟩ := t
    by_cases hk0 : k = 0
    · subst hk0
      rw [decide_eq_true rfl, Bool.true_or, Bool.true_and] at hinv
      repeat' (first | refine st ?_ | (refine AK.condS rfl (fun h => ?_) (fun h => ?_) <;> first | (cases h; done) | rw [h] | skip) | refine uW hf rfl rfl ?_ | refine uI rfl (i) rfl (ints_at hk) rfl ?_ | refine uI rfl (i) rfl (tys_at ht) rfl ?_ | ((first | refine AOps.splitT rfl rfl rfl asm (fun h => ?_) | refine AOps.splitF rfl rfl rfl asm (fun h => ?_) | refine AOps.split rfl rfl rfl (fun h => ?_) (fun h => ?_)) <;> (fail_if_success (cases h; done)) <;> rw [h]))
      refine AK.again (ih (i + 1) ⟨h2, hinv⟩ (by omega)) ⟨.inl (succ64 (by omega)), .inl rfl, .inl rfl, .inl rfl, trivial⟩ trivial trivial rfl rfl rfl
    have e2 : (k != 0) = true := by simpa using hk0
    by_cases hT : T = k
    · have e3 : (T != k) = false := by simpa using hT
      rw [decide_eq_true (show tyT (.mk T us) = k from hT), Bool.or_true, Bool.true_and] at hinv
      repeat' (first | refine st ?_ | (refine AK.condS rfl (fun h => ?_) (fun h => ?_) <;> first | (cases h; done) | rw [h] | skip) | refine uW hf rfl rfl ?_ | refine uI rfl (i) rfl (ints_at hk) rfl ?_ | refine uI rfl (i) rfl (tys_at ht) rfl ?_ | ((first | refine AOps.splitT rfl rfl rfl asm (fun h => ?_) | refine AOps.splitF rfl rfl rfl asm (fun h => ?_) | refine AOps.split rfl rfl rfl (fun h => ?_) (fun h => ?_)) <;> (fail_if_success (cases h; done)) <;> rw [h]))
      refine AK.again (ih (i + 1) ⟨h2, hinv⟩ (by omega)) ⟨.inl (succ64 (by omega)), .inl rfl, .inl rfl, .inl rfl, trivial⟩ trivial trivial rfl rfl rfl
    · have e3 : (T != k) = true := by simpa using hT
      rw [decide_eq_false (show ¬ tyT (.mk T us) = k from hT), decide_eq_false hk0, Bool.or_false, Bool.false_and] at hinv
      rw [hinv]
      clear ih
      repeat' (first | refine st ?_ | (refine AK.condS rfl (fun h => ?_) (fun h => ?_) <;> first | (cases h; done) | rw [h] | skip) | refine uW hf rfl rfl ?_ | refine uI rfl (i) rfl (ints_at hk) rfl ?_ | refine uI rfl (i) rfl (tys_at ht) rfl ?_ | ((first | refine AOps.splitT rfl rfl rfl asm (fun h => ?_) | refine AOps.splitF rfl rfl rfl asm (fun h => ?_) | refine AOps.split rfl rfl rfl (fun h => ?_) (fun h => ?_)) <;> (fail_if_success (cases h; done)) <;> rw [h]))
      all_goals exact Wk.refl _
  · have hc := ints_end he
    have h0 : kOk s l = true := by rw [hinv, he, List.drop_length, kOk_end]
    rw [h0]
    clear ih
    repeat' (first | refine st ?_ | (refine AK.condS rfl (fun h => ?_) (fun h => ?_) <;> first | (cases h; done) | rw [h] | skip) | refine uW hf rfl rfl ?_ | ((first | refine AOps.splitT rfl rfl rfl asm (fun h => ?_) | refine AOps.splitF rfl rfl rfl asm (fun h => ?_) | refine AOps.split rfl rfl rfl (fun h => ?_) (fun h => ?_)) <;> (fail_if_success (cases h; done)) <;> rw [h]))
    all_goals exact Wk.refl _
end Go.Proofs

-- WK
set_option linter.unusedVariables false
set_option linter.unusedSimpArgs false
namespace Go.Proofs
open Go.Abs
attribute [local irreducible] AK AOps QCalls ECalls tParse

set_option maxHeartbeats 0 in
theorem cshape_calls (p : Int) : QCalls Tryd.prog Tryd.X 29 [.int .i64 p] (.str (cShape p)) := by
  refine QCalls.of Tryd.func29 rfl (fun args w => Tryd.call29 args w) (Nat.le_of_ble_eq_true rfl) [(0, .c (.int .i64 p))] rfl fun β hβ => ?_; have hf := Tryd.func29
  repeat' (first | refine st ?_ | (refine AK.condS rfl (fun h => ?_) (fun h => ?_) <;> first | (cases h; done) | rw [h] | skip) | refine uW hf rfl rfl ?_)
  all_goals
    clear hf
    refine Wk.of_eq (congrArg CV.str ?_)
    unfold cShape
    simp_all

theorem four (a : Int) : a = 3 ∨ a = 4 ∨ a = 5 ∨ ((a == 3) = false ∧ (a == 4) = false ∧ (a == 5) = false) := by
  by_cases h1 : a = 3
  · exact .inl h1
  by_cases h2 : a = 4
  · exact .inr (.inl h2)
  by_cases h3 : a = 5
  · exact .inr (.inr (.inl h3))
  exact .inr (.inr (.inr ⟨by simpa using h1, by simpa using h2, by simpa using h3⟩))

set_option maxHeartbeats 0 in
theorem csum_calls (p a b : Int) (hp : p = 69 ∨ p = 70 ∨ p = 71 ∨ p = 72) : QCalls Tryd.prog Tryd.X 54 [.int .i64 p, .int .i64 a, .int .i64 b] (.int .i64 (cSum p a b)) := by
  rcases hp with rfl | rfl | rfl | rfl <;> rcases four a with rfl | rfl | rfl | ⟨a1, a2, a3⟩ <;> rcases four b with rfl | rfl | rfl | ⟨b1, b2, b3⟩
  all_goals
    refine QCalls.of Tryd.func54 rfl (fun args w => Tryd.call54 args w) (Nat.le_of_ble_eq_true rfl) [(0, .c (.int .i64 _)), (1, .c (.int .i64 _)), (2, .c (.int .i64 _))] rfl fun β hβ => ?_; have hf := Tryd.func54
    repeat' (first | refine st ?_ | (refine AK.condS rfl (fun h => ?_) (fun h => ?_) <;> first | (cases h; done) | rw [h] | skip) | refine uW hf rfl rfl ?_ | ((first | refine AOps.splitT rfl rfl rfl asm (fun h => ?_) | refine AOps.splitF rfl rfl rfl asm (fun h => ?_) | refine AOps.split rfl rfl rfl (fun h => ?_) (fun h => ?_)) <;> (fail_if_success (cases h; done)) <;> rw [h]))
    all_goals
      clear hf
      refine Wk.of_eq (congrArg (CV.int .i64) ?_)
      unfold cSum
      simp_all

theorem indexNd_calls (l : List Nd) (p : Nd → Bool) (f : FuncId) (caps : List CV) (hp : ∀ x ∈ l, QCalls Tryd.prog Tryd.X f (encNd x :: caps) (.bool (p x))) (hlen : l.length ≤ 1099511627776) :
    QCalls Tryd.prog Tryd.X 76 [.sl 5 (encNds l), .clo f caps] (.int .i64 (idxOf p l)) := by
  refine QCalls.of Tryd.func76 rfl (fun args w => Tryd.call76 args w) (Nat.le_of_ble_eq_true rfl) [(0, .c (.sl 5 (encNds l))), (1, .c (.clo f caps))] rfl fun β hβ => ?_; have hf := Tryd.func76
  refine AK.runP Tryd.hX Tryd.mixed 300 rfl ?_
  refine AK.loopE (α := Nat) (fun i => i ≤ l.length ∧ ∀ (j : Nat) x, j < i → l[j]? = some x → p x = false) (fun i => l.length - i)
    (fun i => [(8, .c (.int .i64 i)), (7, .c (.int .i64 (encNds l).length)), (0, .c (.sl 5 (encNds l))), (1, .c (.clo f caps))]) (fun _ => []) (fun _ => []) [] 0
    ⟨by omega, by intro j x h; omega⟩ ⟨.inl rfl, .inl rfl, .inl rfl, .inl rfl, trivial⟩ trivial trivial rfl rfl rfl ?_
  rintro i ⟨hi, hno⟩ ih
  rcases get_or l i hi with ⟨x, hx, hm⟩ | he
  · have hc := nds_lt hx
    have hq := hp x hm
    have h2 := lt_of_get hx
    cases hb : p x with
    | true =>
      rw [hb] at hq
      rw [idxOf_first p l i x hx hb hno]
      obtain ⟨k1, k2, k3, k4, k5⟩ := x
      clear ih
      repeat' (first | refine st ?_ | (refine AK.condS rfl (fun h => ?_) (fun h => ?_) <;> first | (cases h; done) | rw [h] | skip) | refine uW hf rfl rfl ?_ | refine uI rfl (i) rfl (nds_at hx) rfl ?_ | refine uC rfl hq ?_)
      all_goals exact Wk.refl _
    | false =>
      rw [hb] at hq
      have ih' := ih (i + 1) ⟨by omega, fun j y hj hjy => by
        by_cases hji : j = i
        · subst hji; rw [hx] at hjy; simp at hjy; subst hjy; exact hb
        · exact hno j y (by omega) hjy⟩ (by omega)
      obtain ⟨k1, k2, k3, k4, k5⟩ := x
      repeat' (first | refine st ?_ | (refine AK.condS rfl (fun h => ?_) (fun h => ?_) <;> first | (cases h; done) | rw [h] | skip) | refine uW hf rfl rfl ?_ | refine uI rfl (i) rfl (nds_at hx) rfl ?_ | refine uC rfl hq ?_)
      refine AK.again ih' ⟨.inl ?_, .inl rfl, .inl rfl, .inl rfl, trivial⟩ trivial trivial rfl rfl rfl
      rw [w64 (by omega) (by omega)]; rfl
  · have hc := nds_end he
    have h0 : idxOf p l = -1 := idxOf_none p l (fun j y hy => by
      have := lt_of_get hy
      exact hno j y (by omega) hy)
    rw [h0]
    clear ih
    repeat' (first | refine st ?_ | (refine AK.condS rfl (fun h => ?_) (fun h => ?_) <;> first | (cases h; done) | rw [h] | skip) | refine uW hf rfl rfl ?_)
    all_goals exact Wk.refl _
theorem containsNd_calls (l : List Nd) (p : Nd → Bool) (f : FuncId) (caps : List CV) (hp : ∀ x ∈ l, QCalls Tryd.prog Tryd.X f (encNd x :: caps) (.bool (p x))) (hlen : l.length ≤ 1099511627776) :
    QCalls Tryd.prog Tryd.X 68 [.sl 5 (encNds l), .clo f caps] (.bool (l.any p)) := by
  refine QCalls.of Tryd.func68 rfl (fun args w => Tryd.call68 args w) (Nat.le_of_ble_eq_true rfl) [(0, .c (.sl 5 (encNds l))), (1, .c (.clo f caps))] rfl fun β hβ => ?_; have hf := Tryd.func68
  repeat' (first | refine st ?_ | refine uW hf rfl rfl ?_ | refine uC rfl (indexNd_calls l p f caps hp hlen) ?_)
  all_goals exact Wk.of_eq (congrArg CV.bool (idxOf_any p l))
theorem nMints_any : ∀ (l : List Nd), nMints l = l.any nMint
  | [] => rfl
  | x :: l => by simp only [nMints, List.any_cons, nMints_any l]

set_option maxHeartbeats 0 in
theorem mints_calls (l : List Nd) (hl : ndsSize l ≤ 1099511627776) : QCalls Tryd.prog Tryd.X 53 [.sl 5 (encNds l)] (.bool (nMints l)) := by
  have hin : ∀ x ∈ l, QCalls Tryd.prog Tryd.X 69 [encNd x] (.bool (nMint x)) := by
    rintro ⟨k, n, p, s, xs⟩ hx
    have hsz := ndsSize_mem hx
    simp only [ndSize] at hsz
    have hrec := mints_calls xs (by omega)
    unfold nMint
    by_cases hk : k = 2
    · subst hk
      by_cases hp : p = 84
      · subst hp
        rw [decide_eq_true ⟨rfl, rfl⟩]
        refine QCalls.of Tryd.func69 rfl (fun args w => Tryd.call69 args w) (Nat.le_of_ble_eq_true rfl) [(0, .c (encNd (.mk 2 n 84 s xs)))] rfl fun β hβ => ?_; have hf := Tryd.func69
        repeat' (first | refine st ?_ | refine uW hf rfl rfl ?_ | refine uC rfl hrec ?_ | ((first | refine AOps.splitT rfl rfl rfl asm (fun h => ?_) | refine AOps.splitF rfl rfl rfl asm (fun h => ?_) | refine AOps.split rfl rfl rfl (fun h => ?_) (fun h => ?_)) <;> (fail_if_success (cases h; done)) <;> rw [h]))
        all_goals exact Wk.refl _
      · rw [decide_eq_false (fun h => hp h.2)]
        have e1 : (p == 84) = false := by simpa using hp
        refine QCalls.of Tryd.func69 rfl (fun args w => Tryd.call69 args w) (Nat.le_of_ble_eq_true rfl) [(0, .c (encNd (.mk 2 n p s xs)))] rfl fun β hβ => ?_; have hf := Tryd.func69
        repeat' (first | refine st ?_ | refine uW hf rfl rfl ?_ | refine uC rfl hrec ?_ | ((first | refine AOps.splitT rfl rfl rfl asm (fun h => ?_) | refine AOps.splitF rfl rfl rfl asm (fun h => ?_) | refine AOps.split rfl rfl rfl (fun h => ?_) (fun h => ?_)) <;> (fail_if_success (cases h; done)) <;> rw [h]))
        all_goals exact Wk.refl _
    · rw [decide_eq_false (fun h => hk h.1)]
      have e1 : (k == 2) = false := by simpa using hk
      refine QCalls.of Tryd.func69 rfl (fun args w => Tryd.call69 args w) (Nat.le_of_ble_eq_true rfl) [(0, .c (encNd (.mk k n p s xs)))] rfl fun β hβ => ?_; have hf := Tryd.func69
      repeat' (first | refine st ?_ | refine uW hf rfl rfl ?_ | refine uC rfl hrec ?_ | ((first | refine AOps.splitT rfl rfl rfl asm (fun h => ?_) | refine AOps.splitF rfl rfl rfl asm (fun h => ?_) | refine AOps.split rfl rfl rfl (fun h => ?_) (fun h => ?_)) <;> (fail_if_success (cases h; done)) <;> rw [h]))
      all_goals exact Wk.refl _
  have hlen := ndsSize_len l
  have h1 := containsNd_calls l nMint 69 [] hin (by omega)
  rw [← nMints_any] at h1
  refine QCalls.of Tryd.func53 rfl (fun args w => Tryd.call53 args w) (Nat.le_of_ble_eq_true rfl) [(0, .c (.sl 5 (encNds l)))] rfl fun β hβ => ?_; have hf := Tryd.func53
  repeat' (first | refine st ?_ | refine uW hf rfl rfl ?_ | refine uC rfl h1 ?_)
  all_goals exact Wk.refl _
termination_by SizeOf.sizeOf l
decreasing_by
  have := List.sizeOf_lt_of_mem hx
  simp at this ⊢; omega
end Go.Proofs

-- WK
set_option linter.unusedVariables false
set_option linter.unusedSimpArgs false
namespace Go.Proofs
open Go.Abs
attribute [local irreducible] AK AOps QCalls ECalls tParse

theorem cShape_mem {p : Int} {w : UInt8} (h : w ∈ cShape p) : w = 110 ∨ w = 99 ∨ w = 116 ∨ w = 118 := by
  unfold cShape at h
  repeat' (split at h)
  all_goals simp at h
  all_goals (try (rcases h with h | h | h))
  all_goals (try (rcases h with h | h))
  all_goals (try subst h)
  all_goals simp
theorem cFit_nil (l : List Nd) (acc : List Ty) : cFit [] l acc = some acc := by unfold cFit; rfl
theorem cFit_n (ws : List UInt8) (kind N P : Int) (S : List UInt8) (xs l : List Nd) (acc : List Ty) : cFit (110 :: ws) (.mk kind N P S xs :: l) acc = if kind = 0 ∧ 0 ≤ N ∧ N ≤ 40 then cFit ws l acc else none := by
  conv => lhs; unfold cFit
  rw [if_pos rfl]
theorem cFit_c (ws : List UInt8) (kind N P : Int) (S : List UInt8) (xs l : List Nd) (acc : List Ty) : cFit (99 :: ws) (.mk kind N P S xs :: l) acc = if kind = 3 then cFit ws l acc else none := by
  conv => lhs; unfold cFit
  rw [if_neg (by decide), if_pos rfl]
theorem cFit_t (ws : List UInt8) (kind N P : Int) (S : List UInt8) (xs l : List Nd) (acc : List Ty) : cFit (116 :: ws) (.mk kind N P S xs :: l) acc = if (tParse (.mk kind N P S xs)).2 = 0 then cFit ws l (acc ++ [(tParse (.mk kind N P S xs)).1]) else none := by
  conv => lhs; unfold cFit
  rw [if_neg (by decide), if_neg (by decide), if_pos rfl]
theorem cFit_v (ws : List UInt8) (kind N P : Int) (S : List UInt8) (xs l : List Nd) (acc : List Ty) : cFit (118 :: ws) (.mk kind N P S xs :: l) acc = cFit ws l acc := by
  conv => lhs; unfold cFit
  rw [if_neg (by decide), if_neg (by decide), if_neg (by decide)]
/-- What fits answers, as it lies there. -/
def encFits : Option (List Ty) → CV
  | some l => .tup [.sl 2 (encTys l), .bool true]
  | none => .tup [.sl 2 [], .bool false]

set_option maxHeartbeats 0 in
theorem cfits_calls (kind N P : Int) (S : List UInt8) (args : List Nd) (hn : ndsSize args ≤ 8589934593) : QCalls Tryd.prog Tryd.X 25 [encNd (.mk kind N P S args)] (encFits (cFits P args)) := by
  have h1 := cshape_calls P
  have hal := ndsSize_len args
  have z1 := encNds_length args
  unfold cFits
  by_cases c1 : P < 40
  · rw [if_pos (.inl c1)]
    have e1 : decide (P < 40) = true := decide_eq_true c1
    refine QCalls.of Tryd.func25 rfl (fun args w => Tryd.call25 args w) (Nat.le_of_ble_eq_true rfl) [(0, .c (encNd (.mk kind N P S args)))] rfl fun β hβ => ?_; have hf := Tryd.func25
    repeat' (first | refine st ?_ | (refine AK.condS rfl (fun h => ?_) (fun h => ?_) <;> first | (cases h; done) | rw [h] | skip) | refine uW hf rfl rfl ?_ | refine uC rfl h1 ?_ | (refine uA rfl ?_ ?_ <;> (try (show (_ : Nat) * _ ≤ _; dsimp only))) | ((first | refine AOps.splitT rfl rfl rfl asm (fun h => ?_) | refine AOps.splitF rfl rfl rfl asm (fun h => ?_) | refine AOps.split rfl rfl rfl (fun h => ?_) (fun h => ?_)) <;> (fail_if_success (cases h; done)) <;> rw [h]))
    all_goals exact wk_nil1
  have e1 : decide (P < 40) = false := decide_eq_false c1
  by_cases c2 : args.length ≠ (cShape P).length
  · rw [if_pos (.inr c2)]
    have e2 : ((((encNds args).length : Nat) : Int) != (((cShape P).length : Nat) : Int)) = true := by rw [z1]; simp; omega
    refine QCalls.of Tryd.func25 rfl (fun args w => Tryd.call25 args w) (Nat.le_of_ble_eq_true rfl) [(0, .c (encNd (.mk kind N P S args)))] rfl fun β hβ => ?_; have hf := Tryd.func25
    repeat' (first | refine st ?_ | (refine AK.condS rfl (fun h => ?_) (fun h => ?_) <;> first | (cases h; done) | rw [h] | skip) | refine uW hf rfl rfl ?_ | refine uC rfl h1 ?_ | (refine uA rfl ?_ ?_ <;> (try (show (_ : Nat) * _ ≤ _; dsimp only))) | ((first | refine AOps.splitT rfl rfl rfl asm (fun h => ?_) | refine AOps.splitF rfl rfl rfl asm (fun h => ?_) | refine AOps.split rfl rfl rfl (fun h => ?_) (fun h => ?_)) <;> (fail_if_success (cases h; done)) <;> rw [h]))
    all_goals exact wk_nil1
  rw [if_neg (by omega)]
  have hlen : args.length = (cShape P).length := by omega
  have e2 : ((((encNds args).length : Nat) : Int) != (((cShape P).length : Nat) : Int)) = false := by rw [z1]; simp; omega
  have hmem := fun w h => @cShape_mem P w h
  generalize cShape P = ws at h1 hlen e2 hmem ⊢
  refine QCalls.of Tryd.func25 rfl (fun args w => Tryd.call25 args w) (Nat.le_of_ble_eq_true rfl) [(0, .c (encNd (.mk kind N P S args)))] rfl fun β hβ => ?_; have hf := Tryd.func25
  repeat' (first | refine st ?_ | (refine AK.condS rfl (fun h => ?_) (fun h => ?_) <;> first | (cases h; done) | rw [h] | skip) | refine uW hf rfl rfl ?_ | refine uC rfl h1 ?_ | (refine uA rfl ?_ ?_ <;> (try (show (_ : Nat) * _ ≤ _; dsimp only))) | ((first | refine AOps.splitT rfl rfl rfl asm (fun h => ?_) | refine AOps.splitF rfl rfl rfl asm (fun h => ?_) | refine AOps.split rfl rfl rfl (fun h => ?_) (fun h => ?_)) <;> (fail_if_success (cases h; done)) <;> rw [h]))
  refine AK.ren [] [(6000, (0, none))] (env' := [(27, .c (.int .i64 (0 : Nat))), (26, .c (.int .i64 (encNds args).length)), (25, .c (.sl 5 (encNds args))), (4, .c (.str ws)), (5, .own (.tok 6000 0) 2 [])])
    (bs' := []) (ts' := [(6000, 0)]) (us' := [6000])
    ⟨⟨_, rfl, .inl rfl⟩, ⟨_, rfl, .inl rfl⟩, ⟨_, rfl, .inl rfl⟩, ⟨_, rfl, .inl rfl⟩, ⟨_, rfl, ⟨_, rfl, .inl ⟨rfl, _, rfl, .inr rfl⟩⟩⟩, trivial⟩ trivial rfl ?_
  refine AK.loopE (α := Nat × List Ty) (fun z => z.1 ≤ args.length ∧ z.2.length ≤ z.1 ∧ cFit ws args [] = cFit (ws.drop z.1) (args.drop z.1) z.2) (fun z => args.length - z.1)
    (fun z => [(27, .c (.int .i64 z.1)), (26, .c (.int .i64 (encNds args).length)), (25, .c (.sl 5 (encNds args))), (4, .c (.str ws)), (5, .own (.tok 6000 0) 2 (encTys z.2))]) (fun _ => []) (fun _ => [(6000, 0)]) [6000] (0, [])
    ⟨by omega, by simp, rfl⟩ ⟨.inl rfl, .inl rfl, .inl rfl, .inl rfl, .inl rfl, trivial⟩ trivial ⟨rfl, trivial⟩ rfl rfl rfl ?_
  rintro ⟨i, acc⟩ ⟨hi, hia, hinv⟩ ih
  simp only at hi hia hinv
  rcases get_or args i hi with ⟨x, hx, hm⟩ | he
  · have hc := nds_lt hx
    have h2 := lt_of_get hx
    obtain ⟨w, hw⟩ : ∃ w, ws[i]? = some w := ⟨ws[i]'(by omega), by simp⟩
    have hws := hmem w (List.mem_of_getElem? hw)
    have hxs := ndsSize_mem hm
    have hp := Parse_calls x (by omega)
    rw [drop_at hx, drop_at hw] at hinv
    obtain ⟨k1, k2, k3, k4, k5⟩ := x
    rcases hws with rfl | rfl | rfl | rfl
    · have f1 : ((((110 : UInt8).toNat : Nat) : Int) == 110) = true := rfl
      rw [cFit_n] at hinv
      by_cases g1 : k1 = 0
      rotate_left
      · rw [if_neg (fun h => g1 h.1)] at hinv
        rw [hinv]
        have g2 : (k1 != 0) = true := by simpa using g1
        clear ih hinv
        repeat' (first | refine st ?_ | (refine AK.condS rfl (fun h => ?_) (fun h => ?_) <;> first | (cases h; done) | rw [h] | skip) | refine uW hf rfl rfl ?_ | refine uI rfl (i) rfl (nds_at hx) rfl ?_ | refine AOps.indexStr Tryd.hX kn rfl rfl rfl rfl rfl rfl rfl (m := i) rfl hw ?_ | (refine uA rfl ?_ ?_ <;> (try (show (_ : Nat) * _ ≤ _; dsimp only))) | ((first | refine AOps.splitT rfl rfl rfl asm (fun h => ?_) | refine AOps.splitF rfl rfl rfl asm (fun h => ?_) | refine AOps.split rfl rfl rfl (fun h => ?_) (fun h => ?_)) <;> (fail_if_success (cases h; done)) <;> rw [h]))
        all_goals exact wk_nil1
      subst g1
      by_cases g3 : k2 < 0
      · rw [if_neg (fun h => by omega)] at hinv
        rw [hinv]
        have g2 : decide (k2 < 0) = true := decide_eq_true g3
        clear ih hinv
        repeat' (first | refine st ?_ | (refine AK.condS rfl (fun h => ?_) (fun h => ?_) <;> first | (cases h; done) | rw [h] | skip) | refine uW hf rfl rfl ?_ | refine uI rfl (i) rfl (nds_at hx) rfl ?_ | refine AOps.indexStr Tryd.hX kn rfl rfl rfl rfl rfl rfl rfl (m := i) rfl hw ?_ | (refine uA rfl ?_ ?_ <;> (try (show (_ : Nat) * _ ≤ _; dsimp only))) | ((first | refine AOps.splitT rfl rfl rfl asm (fun h => ?_) | refine AOps.splitF rfl rfl rfl asm (fun h => ?_) | refine AOps.split rfl rfl rfl (fun h => ?_) (fun h => ?_)) <;> (fail_if_success (cases h; done)) <;> rw [h]))
        all_goals exact wk_nil1
      have g4 : decide (k2 < 0) = false := decide_eq_false g3
      by_cases g5 : k2 > 40
      · rw [if_neg (fun h => by omega)] at hinv
        rw [hinv]
        have g2 : decide (k2 > 40) = true := decide_eq_true g5
        clear ih hinv
        repeat' (first | refine st ?_ | (refine AK.condS rfl (fun h => ?_) (fun h => ?_) <;> first | (cases h; done) | rw [h] | skip) | refine uW hf rfl rfl ?_ | refine uI rfl (i) rfl (nds_at hx) rfl ?_ | refine AOps.indexStr Tryd.hX kn rfl rfl rfl rfl rfl rfl rfl (m := i) rfl hw ?_ | (refine uA rfl ?_ ?_ <;> (try (show (_ : Nat) * _ ≤ _; dsimp only))) | ((first | refine AOps.splitT rfl rfl rfl asm (fun h => ?_) | refine AOps.splitF rfl rfl rfl asm (fun h => ?_) | refine AOps.split rfl rfl rfl (fun h => ?_) (fun h => ?_)) <;> (fail_if_success (cases h; done)) <;> rw [h]))
        all_goals exact wk_nil1
      have g6 : decide (k2 > 40) = false := decide_eq_false g5
      rw [if_pos ⟨rfl, by omega, by omega⟩] at hinv
      repeat' (first | refine st ?_ | (refine AK.condS rfl (fun h => ?_) (fun h => ?_) <;> first | (cases h; done) | rw [h] | skip) | refine uW hf rfl rfl ?_ | refine uI rfl (i) rfl (nds_at hx) rfl ?_ | refine AOps.indexStr Tryd.hX kn rfl rfl rfl rfl rfl rfl rfl (m := i) rfl hw ?_ | (refine uA rfl ?_ ?_ <;> (try (show (_ : Nat) * _ ≤ _; dsimp only))) | ((first | refine AOps.splitT rfl rfl rfl asm (fun h => ?_) | refine AOps.splitF rfl rfl rfl asm (fun h => ?_) | refine AOps.split rfl rfl rfl (fun h => ?_) (fun h => ?_)) <;> (fail_if_success (cases h; done)) <;> rw [h]))
      refine AK.again (ih (i + 1, acc) ⟨h2, by show acc.length ≤ i + 1; omega, hinv⟩ (by show args.length - (i + 1) < args.length - i; omega)) ⟨.inl (succ64 (i := i) (by omega)), .inl rfl, .inl rfl, .inl rfl, .inl rfl, trivial⟩ trivial ⟨rfl, trivial⟩ rfl rfl rfl
    · have f1 : ((((99 : UInt8).toNat : Nat) : Int) == 110) = false := rfl
      have f2 : ((((99 : UInt8).toNat : Nat) : Int) == 99) = true := rfl
      rw [cFit_c] at hinv
      by_cases g1 : k1 = 3
      rotate_left
      · rw [if_neg g1] at hinv
        rw [hinv]
        have g2 : (k1 != 3) = true := by simpa using g1
        clear ih hinv
        repeat' (first | refine st ?_ | (refine AK.condS rfl (fun h => ?_) (fun h => ?_) <;> first | (cases h; done) | rw [h] | skip) | refine uW hf rfl rfl ?_ | refine uI rfl (i) rfl (nds_at hx) rfl ?_ | refine AOps.indexStr Tryd.hX kn rfl rfl rfl rfl rfl rfl rfl (m := i) rfl hw ?_ | (refine uA rfl ?_ ?_ <;> (try (show (_ : Nat) * _ ≤ _; dsimp only))) | ((first | refine AOps.splitT rfl rfl rfl asm (fun h => ?_) | refine AOps.splitF rfl rfl rfl asm (fun h => ?_) | refine AOps.split rfl rfl rfl (fun h => ?_) (fun h => ?_)) <;> (fail_if_success (cases h; done)) <;> rw [h]))
        all_goals exact wk_nil1
      subst g1
      rw [if_pos rfl] at hinv
      repeat' (first | refine st ?_ | (refine AK.condS rfl (fun h => ?_) (fun h => ?_) <;> first | (cases h; done) | rw [h] | skip) | refine uW hf rfl rfl ?_ | refine uI rfl (i) rfl (nds_at hx) rfl ?_ | refine AOps.indexStr Tryd.hX kn rfl rfl rfl rfl rfl rfl rfl (m := i) rfl hw ?_ | (refine uA rfl ?_ ?_ <;> (try (show (_ : Nat) * _ ≤ _; dsimp only))) | ((first | refine AOps.splitT rfl rfl rfl asm (fun h => ?_) | refine AOps.splitF rfl rfl rfl asm (fun h => ?_) | refine AOps.split rfl rfl rfl (fun h => ?_) (fun h => ?_)) <;> (fail_if_success (cases h; done)) <;> rw [h]))
      refine AK.again (ih (i + 1, acc) ⟨h2, by show acc.length ≤ i + 1; omega, hinv⟩ (by show args.length - (i + 1) < args.length - i; omega)) ⟨.inl (succ64 (i := i) (by omega)), .inl rfl, .inl rfl, .inl rfl, .inl rfl, trivial⟩ trivial ⟨rfl, trivial⟩ rfl rfl rfl
    · have f1 : ((((116 : UInt8).toNat : Nat) : Int) == 110) = false := rfl
      have f2 : ((((116 : UInt8).toNat : Nat) : Int) == 99) = false := rfl
      have f3 : ((((116 : UInt8).toNat : Nat) : Int) == 116) = true := rfl
      rw [cFit_t] at hinv
      rcases hr : tParse (.mk k1 k2 k3 k4 k5) with ⟨⟨U, us⟩, e⟩
      rw [hr] at hp hinv
      simp only at hp hinv
      by_cases g1 : e = 0
      rotate_left
      · rw [if_neg g1] at hinv
        rw [hinv]
        have g2 : (e != 0) = true := by simpa using g1
        clear ih hinv
        repeat' (first | refine st ?_ | (refine AK.condS rfl (fun h => ?_) (fun h => ?_) <;> first | (cases h; done) | rw [h] | skip) | refine uW hf rfl rfl ?_ | refine uI rfl (i) rfl (nds_at hx) rfl ?_ | refine AOps.indexStr Tryd.hX kn rfl rfl rfl rfl rfl rfl rfl (m := i) rfl hw ?_ | refine uC rfl hp ?_ | (refine uA rfl ?_ ?_ <;> (try (show (_ : Nat) * _ ≤ _; dsimp only))) | ((first | refine AOps.splitT rfl rfl rfl asm (fun h => ?_) | refine AOps.splitF rfl rfl rfl asm (fun h => ?_) | refine AOps.split rfl rfl rfl (fun h => ?_) (fun h => ?_)) <;> (fail_if_success (cases h; done)) <;> rw [h]))
        all_goals exact wk_nil1
      subst g1
      rw [if_pos rfl] at hinv
      repeat' (first | refine st ?_ | (refine AK.condS rfl (fun h => ?_) (fun h => ?_) <;> first | (cases h; done) | rw [h] | skip) | refine uW hf rfl rfl ?_ | refine uI rfl (i) rfl (nds_at hx) rfl ?_ | refine AOps.indexStr Tryd.hX kn rfl rfl rfl rfl rfl rfl rfl (m := i) rfl hw ?_ | refine uC rfl hp ?_ | (refine uA rfl ?_ ?_ <;> (try (show (_ : Nat) * _ ≤ _; dsimp only))) | ((first | refine AOps.splitT rfl rfl rfl asm (fun h => ?_) | refine AOps.splitF rfl rfl rfl asm (fun h => ?_) | refine AOps.split rfl rfl rfl (fun h => ?_) (fun h => ?_)) <;> (fail_if_success (cases h; done)) <;> rw [h]))
      · have h1 := encTys_length acc
        simp only [List.length_cons, List.length_nil]
        omega
      · have hap : encTys acc ++ [encTy (.mk U us)] = encTys (acc ++ [Ty.mk U us]) := (encTys_append acc [_]).symm
        refine AK.ren [] [(6000, (0, some 6000))] (env' := [(27, .c (.int .i64 ((i + 1 : Nat) : Int))), (26, .c (.int .i64 (encNds args).length)), (25, .c (.sl 5 (encNds args))), (4, .c (.str ws)), (5, .own (.tok 6000 0) 2 (encTys (acc ++ [Ty.mk U us])))])
          (bs' := []) (ts' := [(6000, 0)]) (us' := [6000])
          ⟨⟨_, rfl, .inl (succ64' (i := i) (by omega))⟩, ⟨_, rfl, .inl rfl⟩, ⟨_, rfl, .inl rfl⟩, ⟨_, rfl, .inl rfl⟩, ⟨_, rfl, ⟨_, rfl, .inr ⟨_, _, rfl, rfl, congrArg (AV.own (.tok 6000 1) 2) hap⟩⟩⟩, trivial⟩ trivial rfl ?_
        exact ih (i + 1, acc ++ [Ty.mk U us]) ⟨h2, by simp; omega, hinv⟩ (by show args.length - (i + 1) < args.length - i; omega)
    · have f1 : ((((118 : UInt8).toNat : Nat) : Int) == 110) = false := rfl
      have f2 : ((((118 : UInt8).toNat : Nat) : Int) == 99) = false := rfl
      have f3 : ((((118 : UInt8).toNat : Nat) : Int) == 116) = false := rfl
      rw [cFit_v] at hinv
      repeat' (first | refine st ?_ | (refine AK.condS rfl (fun h => ?_) (fun h => ?_) <;> first | (cases h; done) | rw [h] | skip) | refine uW hf rfl rfl ?_ | refine uI rfl (i) rfl (nds_at hx) rfl ?_ | refine AOps.indexStr Tryd.hX kn rfl rfl rfl rfl rfl rfl rfl (m := i) rfl hw ?_ | (refine uA rfl ?_ ?_ <;> (try (show (_ : Nat) * _ ≤ _; dsimp only))) | ((first | refine AOps.splitT rfl rfl rfl asm (fun h => ?_) | refine AOps.splitF rfl rfl rfl asm (fun h => ?_) | refine AOps.split rfl rfl rfl (fun h => ?_) (fun h => ?_)) <;> (fail_if_success (cases h; done)) <;> rw [h]))
      refine AK.again (ih (i + 1, acc) ⟨h2, by show acc.length ≤ i + 1; omega, hinv⟩ (by show args.length - (i + 1) < args.length - i; omega)) ⟨.inl (succ64 (i := i) (by omega)), .inl rfl, .inl rfl, .inl rfl, .inl rfl, trivial⟩ trivial ⟨rfl, trivial⟩ rfl rfl rfl
  · have hc := nds_end he
    have h0 : cFit ws args [] = some acc := by
      rw [hinv, he, List.drop_length, hlen, List.drop_length]; exact cFit_nil _ _
    rw [h0]
    clear ih hinv
    repeat' (first | refine st ?_ | (refine AK.condS rfl (fun h => ?_) (fun h => ?_) <;> first | (cases h; done) | rw [h] | skip) | refine uW hf rfl rfl ?_ | (refine uA rfl ?_ ?_ <;> (try (show (_ : Nat) * _ ≤ _; dsimp only))) | ((first | refine AOps.splitT rfl rfl rfl asm (fun h => ?_) | refine AOps.splitF rfl rfl rfl asm (fun h => ?_) | refine AOps.split rfl rfl rfl (fun h => ?_) (fun h => ?_)) <;> (fail_if_success (cases h; done)) <;> rw [h]))
    all_goals exact Wk.refl _
end Go.Proofs

set_option linter.unusedVariables false
set_option linter.unusedSimpArgs false
namespace Go.Proofs
open Go.RowKit Go.Lib Go.Abs

theorem slTyInfo : (Tryd.prog.info? 39).map (fun i => (i.zero, i.size, i.bytes)) = some (some (.agg #[.int .i64 0, .slice none 0 0]), 2, 32) := by kernel_rfl
theorem slTyZero : (Builtin.zeroCells (Value.agg #[.int .i64 0, .slice none 0 0]).cells 1).toList = [.int .i64 0, .slice none 0 0] := by
  simp [Builtin.zeroCells, Value.cells, List.range, List.range.loop]

set_option maxHeartbeats 4000000 in
set_option maxRecDepth 1000000 in
theorem slTyDel (n cap i b : Nat) (w : World) (hi : i < n) (hcap : n ≤ cap) (news zs : List Value) (hlen : news.length = (n - (i + 1)) * 2) (h1 : ∀ u ∈ news, u.oneCell' = true)
    (hn : ∀ (j : Nat) u, news[j]? = some u → w.cell? ⟨b, (i + 1) * 2 + j, none⟩ = some u) (hall : ∀ o, o < cap * 2 → (w.cell? ⟨b, o, none⟩).isSome = true) (hfr : ∀ o, w.frozen? ⟨b, o, none⟩ = false)
    (hz : zs = [.int .i64 0, .slice none 0 0]) :
    Calls Tryd.prog 45 #[.slice (some ⟨b, 0, none⟩) n cap, .int .i64 i, .int .i64 ((i + 1 : Nat) : Int)] w fun e w' => e = .returned (.slice (some ⟨b, 0, none⟩) (n - 1) cap) ∧ w' = (w.drew.setCells b (i * 2) news).setCells b ((n - 1) * 2) zs := by
  have mixed := Tryd.mixed
  have hlt : i + 1 ≤ n := hi
  have hne : ¬ ((i : Int) = ((i + 1 : Nat) : Int)) := by omega
  obtain ⟨i0, hi0, hz0, hz1, hzb⟩ := info_parts slTyInfo
  have ts := Tryd.underlying25
  have hic : i ≤ cap := by omega
  have hjc : i + 1 ≤ cap := by omega
  have hb1 : (0 : Int) ≤ (i : Int) + 1 := by omega
  have hb2 : (i : Int) + 1 ≤ (n : Int) := by omega
  obtain ⟨A, hA, hsrc⟩ : ∃ A : Addr, (if cap = i + 1 then (some ⟨b, 0, none⟩ : Option Addr) else some ⟨b, (i + 1) * 2, none⟩) = some A ∧ Hid (∀ (t : Nat) u, news[t]? = some u → w.drew.cell? (A.add t) = some u) := by
    by_cases h : cap = i + 1
    · refine ⟨⟨b, 0, none⟩, by simp [h], fun t u hu => ?_⟩
      have h0 : news.length = 0 := by rw [hlen]; omega
      rw [List.length_eq_zero_iff.1 h0] at hu
      simp at hu
    · refine ⟨⟨b, (i + 1) * 2, none⟩, by simp [h], fun t u hu => ?_⟩
      rw [Addr.add_lit]
      exact hn t u hu
  have s1 : Hid (news.length = (n - (i + 1)) * 2) := hlen
  have s2 : Hid (∀ u ∈ news, u.oneCell' = true) := h1
  have s3 : Hid (∀ t, t < news.length → (w.drew.cell? ⟨b, 0 + i * 2 + t, none⟩).isSome = true ∧ w.drew.frozen? ⟨b, 0 + i * 2 + t, none⟩ = false) := by
    intro t ht
    rw [hlen] at ht
    exact ⟨hall _ (by omega), hfr _⟩
  obtain ⟨W1, hW1⟩ : ∃ W1, W1 = w.drew.setCells b (0 + i * 2) news := ⟨_, rfl⟩
  have hcl : ∀ ty, (Builtin.clear_ #[25] ty #[.slice (some ⟨b, (i + (n - (i + 1))) * 2, none⟩) (n - (i + (n - (i + 1)))) (cap - (i + (n - (i + 1))))]).run Tryd.prog W1 = .ok (.tuple #[]) (W1.setCells b ((n - 1) * 2) zs) := by
    intro ty
    have hst := run_storeCells_cells (P := Tryd.prog) b ((n - 1) * 2) zs 0 W1 (fun j hj => by
        rw [hW1, Nat.add_zero]
        exact setCells_some (fun k hk => by rw [hlen] at hk; exact hall _ (by omega)) (hall _ (by rw [hz] at hj; simp at hj; omega)))
      (fun j hj => by rw [hW1, World.frozen?_setCells]; exact hfr _) (by rw [hz]; simp [Value.oneCell'])
    rw [show n - (i + (n - (i + 1))) = 1 by omega, show i + (n - (i + 1)) = n - 1 by omega]
    rw [hz] at hst ⊢
    simp only [Nat.add_zero] at hst
    simp [Builtin.clear_, run_underlying ts, Tryd.zeroValue39, slTyZero, hst]
  have hW : Hid (W1 = w.drew.setCells b (0 + i * 2) news) := hW1
  clear hW1 hn hall hfr
  go_enter Tryd.func45, Tryd.ntmps45
  go_wp2_with fail
  go_region_law_o (refine step_append_room rfl (.tmp 22) (.tmp 25) 25 rfl 39 i0 2 ts hi0 hz1 b 0 i cap (by simp [Act.eval, Act.put]) A (n - (i + 1)) (cap - (i + 1)) news (by simp [Act.eval, Act.put]) s1.out hsrc.out s2.out (by omega) s3.out ?_; rw [← hW.out])
  go_wp2
  go_ret
  have e1 : i + (n - (i + 1)) = n - 1 := by omega
  refine ⟨by rw [← e1]; rfl, ?_⟩
  rw [hW.out, hz, Nat.zero_add]

set_option maxHeartbeats 4000000 in
set_option maxRecDepth 100000 in
/-- Insert: there is room, and rows behind the place: in place. -/
theorem slTyShift (b n c i vb vo m vc : Nat) (cs vs : List Value) (w : World) (hi : i < n) (hm : 0 < m) (hroom : n + m ≤ c) (hnb : n + m ≤ 9000000000000000000) (hvb : vb ≠ b)
    (hcl : cs.length = n * 2) (hvl : vs.length = m * 2)
    (hcs : ∀ (j : Nat) v, cs[j]? = some v → w.cell? ⟨b, j, none⟩ = some v) (hsp : ∀ j, j < c * 2 → (w.cell? ⟨b, j, none⟩).isSome = true) (hfz : ∀ j, w.frozen? ⟨b, j, none⟩ = false)
    (hvs : ∀ (j : Nat) v, vs[j]? = some v → w.cell? ⟨vb, vo + j, none⟩ = some v) (h1c : ∀ v ∈ cs, v.oneCell' = true) (h1v : ∀ v ∈ vs, v.oneCell' = true) :
    Calls Tryd.prog 46 #[.slice (some ⟨b, 0, none⟩) n c, .int .i64 i, .slice (some ⟨vb, vo, none⟩) m vc] w fun e w' =>
      e = .returned (.slice (some ⟨b, 0, none⟩) (n + m) c) ∧ w' = (w.drew.setCells b ((i + m) * 2) (cs.drop (i * 2))).setCells b (i * 2) vs := by
  have ts := Tryd.underlying25
  have hz1 : ¬ ((m : Int) = 0) := by omega
  have hz2 : ¬ ((i : Int) = (n : Int)) := by omega
  have hz3 : ¬ ((c : Int) < (n : Int) + (m : Int)) := by omega
  have hsz : (Tryd.prog.info? 39).map (·.size) = some 2 := by kernel_rfl
  obtain ⟨v0, hv0⟩ : ∃ v0, w.cell? ⟨vb, vo, none⟩ = some v0 := ⟨_, hvs 0 _ (List.getElem?_eq_getElem (by rw [hvl]; omega))⟩
  obtain ⟨u0, hu0⟩ := Option.isSome_iff_exists.1 (hsp ((i + m) * 2) (by omega))
  have hov : ∀ lb cb, (callFunc 58 #[.slice (some ⟨vb, vo, none⟩) m vc, .slice (some ⟨b, (i + m) * 2, none⟩) lb cb]).run Tryd.prog w = .ok (.value (.bool false)) w := fun lb cb => by
    rw [run_callFunc_extern Tryd.func58 (by kernel_rfl) (by kernel_rfl) (by kernel_rfl) (e := Extern.SlicesOverlaps.overlaps #[25, 25] #[4]) (by kernel_rfl),
      run_overlaps_box w 25 4 39 ts 2 Tryd.sizeOf39 ⟨vb, vo, none⟩ ⟨b, (i + m) * 2, none⟩ m vc lb cb hvb hv0 hu0 hfz rfl]
    rfl
  have hdl : (cs.drop (i * 2)).length = (n - i) * 2 := by rw [List.length_drop, hcl]; omega
  have mixed := Tryd.mixed
  have hw1 : IntKind.i64.wrap ((i : Int) + (m : Int)) = (i : Int) + (m : Int) := by rw [IntKind.wrap_i64]; omega
  have hw2 : IntKind.i64.wrap ((n : Int) + (m : Int)) = (n : Int) + (m : Int) := by rw [IntKind.wrap_i64]; omega
  have hb1 : (0 : Int) ≤ (i : Int) + (m : Int) := by omega
  have hin : i ≤ n := by omega
  have htn : ((i : Int) + (m : Int)).toNat = i + m := by omega
  have hb2 : ¬ (c = i + m) := by omega
  have hb3 : (i : Int) ≤ (n : Int) + (m : Int) := by omega
  have hb4 : ¬ (c = i) := by omega
  have hcp1 : ∀ ty dc sc, (Builtin.copy_ #[25, 25] ty #[.slice (some ⟨b, (i + m) * 2, none⟩) (n + m - (i + m)) dc, .slice (some ⟨b, i * 2, none⟩) (n + m - i) sc]).run Tryd.prog w.drew = .ok (goInt ((n - i : Nat) : Int)) (w.drew.setCells b ((i + m) * 2) (cs.drop (i * 2))) := fun ty dc sc =>
    run_copyK w.drew _ _ ty 39 b ((i + m) * 2) (n + m - (i + m)) dc ⟨b, i * 2, none⟩ (n + m - i) sc (cs.drop (i * 2)) (n - i) 2 ts hsz (by simp only [Nat.min_def]; split <;> omega) hdl
      (fun j v hj => by rw [Addr.add_lit]; exact hcs (i * 2 + j) v (by rwa [List.getElem?_drop] at hj))
      (fun j hj => hsp _ (by rw [hdl] at hj; omega)) (fun j hj => hfz _) (fun v hv => h1c v (List.mem_of_mem_drop hv))
  obtain ⟨W1, hW1⟩ : ∃ W1, W1 = w.drew.setCells b ((i + m) * 2) (cs.drop (i * 2)) := ⟨_, rfl⟩
  have hsp1 : ∀ k, k < c * 2 → (W1.cell? ⟨b, k, none⟩).isSome = true := fun k hk => by
    rw [hW1]
    exact setCells_some (w := w.drew) (fun j hj => hsp ((i + m) * 2 + j) (by rw [hdl] at hj; omega)) (hsp k hk)
  have hcp2 : ∀ (W : World), (∀ x, W.cell? x = W1.cell? x) → (∀ x, W.frozen? x = W1.frozen? x) → ∀ ty dc, (Builtin.copy_ #[25, 25] ty #[.slice (some ⟨b, i * 2, none⟩) (n + m - i) dc, .slice (some ⟨vb, vo, none⟩) m vc]).run Tryd.prog W = .ok (goInt m) (W.setCells b (i * 2) vs) := fun W hWc hWf ty dc =>
    run_copyK W _ _ ty 39 b (i * 2) (n + m - i) dc ⟨vb, vo, none⟩ m vc vs m 2 ts hsz (by simp only [Nat.min_def]; split <;> omega) hvl
      (fun j v hj => by
        rw [Addr.add_lit, hWc, hW1, World.cell?_setCells_out b _ _ _ _ (fun h _ => absurd h hvb)]
        exact hvs j v hj)
      (fun j hj => by rw [hWc]; exact hsp1 _ (by rw [hvl] at hj; omega)) (fun j hj => by rw [hWf, hW1, World.frozen?_setCells]; exact hfz _) h1v
  rw [← hW1] at hcp1
  go_enter Tryd.func46, Tryd.ntmps46
  go_wp2_with (simp only [hov])
  go_region_law_o (refine step_copyI rfl _ _ 25 25 rfl _ _ (by simp [Act.eval, Act.put]) (by simp [Act.eval, Act.put]) (hcp1 _ _ _) ?_)
  go_wp2_with (at_builtin; refine wpList_copyI _ rfl _ _ 25 25 rfl _ _ rfl rfl (hcp2 _ (fun _ => rfl) (fun _ => rfl) _ _) ?_)
  go_ret
  first | exact ⟨rfl, rfl⟩ | exact ⟨rfl, by rw [hW1]⟩

set_option maxHeartbeats 4000000 in
set_option maxRecDepth 100000 in
/-- Insert at the end, and there is room. -/
theorem slTyEndRoom (b n c vb vo m vc : Nat) (vs : List Value) (w : World) (hm : 0 < m) (hroom : n + m ≤ c)
    (hvl : vs.length = m * 2) (hsp : ∀ j, j < c * 2 → (w.cell? ⟨b, j, none⟩).isSome = true) (hfz : ∀ j, w.frozen? ⟨b, j, none⟩ = false)
    (hvs : ∀ (j : Nat) v, vs[j]? = some v → w.cell? ⟨vb, vo + j, none⟩ = some v) (h1v : ∀ v ∈ vs, v.oneCell' = true) :
    Calls Tryd.prog 46 #[.slice (some ⟨b, 0, none⟩) n c, .int .i64 n, .slice (some ⟨vb, vo, none⟩) m vc] w fun e w' =>
      e = .returned (.slice (some ⟨b, 0, none⟩) (n + m) c) ∧ w' = w.setCells b (n * 2) vs := by
  have ts := Tryd.underlying25
  obtain ⟨i0, hi0, hz0, hzs, hzb⟩ := info_parts slTyInfo
  have mixed := Tryd.mixed
  have hz1 : ¬ ((m : Int) = 0) := by omega
  have hap : ∀ ty, (Builtin.append_ #[25, 25] ty #[.slice (some ⟨b, 0, none⟩) n c, .slice (some ⟨vb, vo, none⟩) m vc]).run Tryd.prog w = .ok (.slice (some ⟨b, 0, none⟩) (n + m) c) (w.setCells b (n * 2) vs) := fun ty => by
    have := run_append_room_cells w 25 ty 39 i0 ts hi0 b 0 n c ⟨vb, vo, none⟩ m vc vs (by rw [hzs]; exact hvl) (fun j u hj => by rw [Addr.add_lit]; exact hvs j u hj) h1v hroom
      (fun j hj => by rw [hzs]; exact hsp _ (by rw [hvl] at hj; omega)) (fun j hj => hfz _)
    rw [hzs, Nat.zero_add] at this
    exact this
  go_enter Tryd.func46, Tryd.ntmps46
  go_wp2_with (at_builtin; refine Lib.wpList_append_run _ rfl _ _ _ _ rfl _ _ rfl rfl _ _ (hap _) ?_)
  go_ret
  exact ⟨rfl, rfl⟩

set_option maxHeartbeats 4000000 in
set_option maxRecDepth 100000 in
/-- Insert at the end, and there is no room. -/
theorem slTyEndGrow (b n c vb vo m vc : Nat) (cs vs : List Value) (w : World) (hm : 0 < m) (hnc : n ≤ c) (hroom : c < n + m) (hbig : (n + m) * 32 ≤ 140737488355328)
    (hcl : cs.length = n * 2) (hvl : vs.length = m * 2)
    (hcs : ∀ (j : Nat) v, cs[j]? = some v → w.cell? ⟨b, j, none⟩ = some v)
    (hvs : ∀ (j : Nat) v, vs[j]? = some v → w.cell? ⟨vb, vo + j, none⟩ = some v) (h1v : ∀ v ∈ vs, v.oneCell' = true) :
    Calls Tryd.prog 46 #[.slice (some ⟨b, 0, none⟩) n c, .int .i64 n, .slice (some ⟨vb, vo, none⟩) m vc] w fun e w' =>
      e = .returned (.slice (some ⟨w.heap.size, 0, none⟩) (n + m) (grownCap w (n + m) c 39)) ∧
      w' = w.drew.alloc (.cells ((cs ++ vs).toArray ++ Builtin.zeroCells (Value.agg #[.int .i64 0, .slice none 0 0]).cells (grownCap w (n + m) c 39 - (n + m))) 39) := by
  have ts := Tryd.underlying25
  obtain ⟨i0, hi0, hz0, hzs, hzb⟩ := info_parts slTyInfo
  have mixed := Tryd.mixed
  have hz1 : ¬ ((m : Int) = 0) := by omega
  have hsrc : Src Tryd.prog i0.size 25 (.slice (some ⟨vb, vo, none⟩) m vc) m vs w := by
    rw [hzs]
    exact Src.ofSlice w ts ⟨vb, vo, none⟩ m vc vs hvl (fun j u hj => by rw [Addr.add_lit]; exact hvs j u hj) h1v
  have hold : (Builtin.firstCells i0.size n (.slice (some ⟨b, 0, none⟩) n c)).run Tryd.prog w.drew = .ok cs.toArray w.drew := by
    rw [hzs]
    exact run_firstCells_some w.drew 2 n ⟨b, 0, none⟩ n c cs hcl (fun j v hj => by rw [Addr.add_lit, Nat.zero_add]; exact hcs j v hj)
  have hrun : ∀ ty, (Builtin.append_ #[25, 25] ty #[.slice (some ⟨b, 0, none⟩) n c, .slice (some ⟨vb, vo, none⟩) m vc]).run Tryd.prog w = _ := fun ty =>
    run_append_grow_src w 25 25 ty 39 i0 _ ts hi0 hz0 (some ⟨b, 0, none⟩) n c cs hold _ m vs hsrc hroom (by omega) (by rw [hzb]; exact growslice_fits hroom hbig)
  go_enter Tryd.func46, Tryd.ntmps46
  go_wp2_with (at_builtin; refine Lib.wpList_append_run _ rfl _ _ _ _ rfl _ _ rfl rfl _ _ (hrun _) ?_)
  all_goals (go_ret; exact ⟨rfl, rfl⟩)

set_option maxHeartbeats 4000000 in
set_option maxRecDepth 100000 in
/-- Insert ahead of some rows, and there is no room. -/
theorem slTyGrow (b n c i vb vo m vc : Nat) (cs vs : List Value) (w : World) (hi : i < n) (hm : 0 < m) (hnc : n ≤ c) (hroom : c < n + m) (hbig : (n + m) * 32 ≤ 140737488355328)
    (hcl : cs.length = n * 2) (hvl : vs.length = m * 2)
    (hcs : ∀ (j : Nat) v, cs[j]? = some v → w.cell? ⟨b, j, none⟩ = some v)
    (hvs : ∀ (j : Nat) v, vs[j]? = some v → w.cell? ⟨vb, vo + j, none⟩ = some v) (h1c : ∀ v ∈ cs, v.oneCell' = true) (h1v : ∀ v ∈ vs, v.oneCell' = true) :
    Calls Tryd.prog 46 #[.slice (some ⟨b, 0, none⟩) n c, .int .i64 i, .slice (some ⟨vb, vo, none⟩) m vc] w fun e w' =>
      ∃ G ROW, n + m ≤ G ∧ G * 2 ≤ ROW.size ∧ (∀ j, j < i * 2 → ROW[j]? = cs[j]?) ∧ e = .returned (.slice (some ⟨w.heap.size, 0, none⟩) (n + m) G) ∧
      w' = (((w.alloc (.cells ROW 39)).drew.setCells w.heap.size (i * 2) vs).drew).setCells w.heap.size ((i + m) * 2) (cs.drop (i * 2)) := by
  have ts := Tryd.underlying25
  have tn := Tryd.underlying3
  have mixed := Tryd.mixed
  obtain ⟨i0, hi0, hz0, hzs, hzb⟩ := info_parts slTyInfo
  have hz1 : ¬ ((m : Int) = 0) := by omega
  have hz2 : ¬ ((i : Int) = (n : Int)) := by omega
  have hz3 : (c : Int) < (n : Int) + (m : Int) := by omega
  have hsz : (Tryd.prog.info? 39).map (·.size) = some 2 := by kernel_rfl
  have hbw : b < w.heap.size := block_lt_of_cell (hcs 0 _ (List.getElem?_eq_getElem (by rw [hcl]; omega)))
  have hvw : vb < w.heap.size := block_lt_of_cell (hvs 0 _ (List.getElem?_eq_getElem (by rw [hvl]; omega)))
  have hkk : (n : Int) + (m : Int) - (i : Int) = ((n + m - i : Nat) : Int) := by omega
  have hik : i + (n + m - i) = n + m := by omega
  have htl : (cs.take (i * 2)).length = i * 2 := by rw [List.length_take, hcl]; omega
  have hold : (Builtin.firstCells i0.size i (.slice (some ⟨b, 0, none⟩) i c)).run Tryd.prog w.drew = .ok (cs.take (i * 2)).toArray w.drew := by
    rw [hzs]
    exact run_firstCells_some w.drew 2 i ⟨b, 0, none⟩ i c (cs.take (i * 2)) htl (fun j v hj => by
      rw [Addr.add_lit, Nat.zero_add]
      rw [List.getElem?_take] at hj
      split at hj
      · exact hcs j v hj
      · cases hj)
  obtain ⟨ZS, hZS⟩ : ∃ ZS, ZS = (Value.agg #[.int .i64 0, .slice none 0 0]).cells := ⟨_, rfl⟩
  have hZn : ZS.size = 2 := by rw [hZS]; rfl
  have hzz : ∀ k, (Builtin.zeroCells ZS k).size = k * 2 := fun k => by simp [Builtin.zeroCells, hZn]
  have hrz : ∀ ty, (Builtin.append_ #[25, 3] ty #[.slice (some ⟨b, 0, none⟩) i c, .int .i64 ((n : Int) + (m : Int) - (i : Int))]).run Tryd.prog w =
      .ok (.slice (some ⟨w.heap.size, 0, none⟩) (n + m) (grownCap w (n + m) c 39)) (w.drew.alloc (.cells ((cs.take (i * 2)).toArray ++ Builtin.zeroCells ZS (n + m - i) ++ Builtin.zeroCells ZS (grownCap w (n + m) c 39 - (n + m))) 39)) := fun ty => by
    have h := Lib.run_append_grow_zeros w 25 3 ty 39 i0 _ .i64 .i64 ts tn hi0 hz0 (some ⟨b, 0, none⟩) i c (cs.take (i * 2)) hold (n + m - i) (by omega) (by omega) (by omega) (by omega) (by rw [hzb]; omega) (by rw [hzb, hik]; exact growslice_fits hroom hbig)
    rw [hik, ← hZS] at h
    rw [hkk]
    exact h
  obtain ⟨G, hG⟩ : ∃ G, G = grownCap w (n + m) c 39 := ⟨_, rfl⟩
  have hGn : n + m ≤ G := by rw [hG]; exact grownCap_ge w _ _ _
  obtain ⟨ROW, hROW⟩ : ∃ ROW : Array Value, ROW = (cs.take (i * 2)).toArray ++ Builtin.zeroCells ZS (n + m - i) ++ Builtin.zeroCells ZS (G - (n + m)) := ⟨_, rfl⟩
  rw [← hG] at hrz
  rw [← hROW] at hrz
  have hRs : ROW.size = G * 2 := by
    rw [hROW, Array.size_append, Array.size_append, hzz, hzz, List.size_toArray, htl]
    omega
  have hRi : ∀ j, j < i * 2 → ROW[j]? = cs[j]? := fun j hj => by
    rw [hROW, Array.getElem?_append_left (by rw [Array.size_append, List.size_toArray, htl]; omega), Array.getElem?_append_left (by rw [List.size_toArray, htl]; exact hj)]
    rw [List.getElem?_toArray, List.getElem?_take, if_pos hj]
  obtain ⟨W1, hW1⟩ : ∃ W1, W1 = w.drew.alloc (.cells ROW 39) := ⟨_, rfl⟩
  rw [← hW1] at hrz
  have hN : ∀ j, j < G * 2 → (W1.cell? ⟨w.heap.size, j, none⟩).isSome = true := fun j hj => by
    rw [hW1, World.cell?_alloc_at (w := w.drew) ROW _ w.heap.size j rfl, Array.getElem?_eq_getElem (by omega)]; rfl
  have hNf : ∀ j, W1.frozen? ⟨w.heap.size, j, none⟩ = false := fun j => by rw [hW1]; exact World.frozen?_alloc_at (w := w.drew) ROW _ w.heap.size j rfl
  have hOb : ∀ j v, w.cell? ⟨b, j, none⟩ = some v → W1.cell? ⟨b, j, none⟩ = some v := fun j v h => by rw [hW1, World.cell?_alloc_past (w := w.drew) _ b j hbw]; exact h
  have hOv : ∀ j v, w.cell? ⟨vb, j, none⟩ = some v → W1.cell? ⟨vb, j, none⟩ = some v := fun j v h => by rw [hW1, World.cell?_alloc_past (w := w.drew) _ vb j hvw]; exact h
  have hcpA : ∀ (W : World), (∀ x, W.cell? x = W1.cell? x) → (∀ x, W.frozen? x = W1.frozen? x) → ∀ ty dc, (Builtin.copy_ #[25, 25] ty #[.slice (some ⟨w.heap.size, i * 2, none⟩) (n + m - i) dc, .slice (some ⟨vb, vo, none⟩) m vc]).run Tryd.prog W = .ok (goInt m) (W.setCells w.heap.size (i * 2) vs) := fun W hWc hWf ty dc =>
    run_copyK W _ _ ty 39 w.heap.size (i * 2) (n + m - i) dc ⟨vb, vo, none⟩ m vc vs m 2 ts hsz (by simp only [Nat.min_def]; split <;> omega) hvl
      (fun j v hj => by rw [Addr.add_lit, hWc]; exact hOv _ v (hvs j v hj))
      (fun j hj => by rw [hWc]; exact hN _ (by rw [hvl] at hj; omega)) (fun j hj => by rw [hWf]; exact hNf _) h1v
  have hG63 : G ≤ 9223372036854775807 := by
    have := grownCap_le_maxLen w (n + m) c 39 (by unfold maxLen; omega)
    rw [← hG] at this
    unfold maxLen at this
    omega
  have hGi : ¬ (G = i) := by omega
  have hGim : ¬ (G = i + m) := by omega
  have hci : ¬ (c = i) := by omega
  have hbN : b ≠ w.heap.size := by omega
  have hdl : (cs.drop (i * 2)).length = (n - i) * 2 := by rw [List.length_drop, hcl]; omega
  have hcpB : ∀ (W : World), (∀ x, W.cell? x = (W1.setCells w.heap.size (i * 2) vs).cell? x) → (∀ x, W.frozen? x = (W1.setCells w.heap.size (i * 2) vs).frozen? x) → ∀ ty dc sc, (Builtin.copy_ #[25, 25] ty #[.slice (some ⟨w.heap.size, (i + m) * 2, none⟩) (n + m - (i + m)) dc, .slice (some ⟨b, i * 2, none⟩) (n - i) sc]).run Tryd.prog W = .ok (goInt ((n - i : Nat) : Int)) (W.setCells w.heap.size ((i + m) * 2) (cs.drop (i * 2))) := fun W hWc hWf ty dc sc =>
    run_copyK W _ _ ty 39 w.heap.size ((i + m) * 2) (n + m - (i + m)) dc ⟨b, i * 2, none⟩ (n - i) sc (cs.drop (i * 2)) (n - i) 2 ts hsz (by simp only [Nat.min_def]; split <;> omega) hdl
      (fun j v hj => by
        rw [Addr.add_lit, hWc, World.cell?_setCells_out _ _ _ _ _ (fun h _ => absurd h hbN)]
        exact hOb _ v (hcs (i * 2 + j) v (by rwa [List.getElem?_drop] at hj)))
      (fun j hj => by rw [hWc]; exact setCells_some (fun t ht => hN _ (by rw [hvl] at ht; omega)) (hN _ (by rw [hdl] at hj; omega)))
      (fun j hj => by rw [hWf, World.frozen?_setCells]; exact hNf _) (fun v hv => h1c v (List.mem_of_mem_drop hv))
  subst hW1
  have hE1 : ∀ x, ((w.alloc (.cells ROW 39)).drew).cell? x = (w.drew.alloc (.cells ROW 39)).cell? x := fun x => rfl
  have hE2 : ∀ x, ((w.alloc (.cells ROW 39)).drew).frozen? x = (w.drew.alloc (.cells ROW 39)).frozen? x := fun x => rfl
  have hF1 : ∀ x, (((w.alloc (.cells ROW 39)).drew.setCells w.heap.size (i * 2) vs).drew).cell? x = ((w.drew.alloc (.cells ROW 39)).setCells w.heap.size (i * 2) vs).cell? x := fun x => rfl
  have hF2 : ∀ x, (((w.alloc (.cells ROW 39)).drew.setCells w.heap.size (i * 2) vs).drew).frozen? x = ((w.drew.alloc (.cells ROW 39)).setCells w.heap.size (i * 2) vs).frozen? x := fun x => rfl
  have hw1 : IntKind.i64.wrap ((i : Int) + (m : Int)) = (i : Int) + (m : Int) := by rw [IntKind.wrap_i64]; omega
  have hw2 : IntKind.i64.wrap ((n : Int) + (m : Int)) = (n : Int) + (m : Int) := by rw [IntKind.wrap_i64]; omega
  have hw3 : IntKind.i64.wrap ((n : Int) + (m : Int) - (i : Int)) = (n : Int) + (m : Int) - (i : Int) := by rw [IntKind.wrap_i64]; omega
  have hb1 : (0 : Int) ≤ (i : Int) + (m : Int) := by omega
  have hin : i ≤ n := by omega
  have htn : ((i : Int) + (m : Int)).toNat = i + m := by omega
  have hb3 : (i : Int) ≤ (n : Int) := by omega
  clear hkk hik hold hROW hG hzz hZS hZn htl
  refine Calls.mono (R := fun e w' => e = .returned (.slice (some ⟨w.heap.size, 0, none⟩) (n + m) G) ∧ w' = (((w.alloc (.cells ROW 39)).drew.setCells w.heap.size (i * 2) vs).drew).setCells w.heap.size ((i + m) * 2) (cs.drop (i * 2))) ?_ ?_
  rotate_left
  · rintro e w' ⟨h1, h2⟩
    exact ⟨G, ROW, hGn, by omega, hRi, h1, h2⟩
  clear hRi
  go_enter Tryd.func46, Tryd.ntmps46
  go_wp2_with (first
    | (at_builtin; refine Lib.wpList_append_run _ rfl _ _ _ _ rfl _ _ rfl rfl _ _ (hrz _) ?_)
    | (at_builtin; refine wpList_copyI _ rfl _ _ 25 25 rfl _ _ rfl rfl (hcpA _ hE1 hE2 _ _) ?_)
    | (at_builtin; refine wpList_copyI _ rfl _ _ 25 25 rfl _ _ rfl rfl (hcpB _ (fun _ => rfl) (fun _ => rfl) _ _ _) ?_))
  go_region_law_o (refine step_copyI rfl _ _ 25 25 rfl (.slice (some ⟨w.heap.size, (i + m) * 2, none⟩) (n + m - (i + m)) (G - (i + m))) (.slice (some ⟨b, i * 2, none⟩) (n - i) (c - i)) (by simp [Act.eval, Act.put]) (by simp [Act.eval, Act.put]) (hcpB _ hF1 hF2 3 (G - (i + m)) (c - i)) ?_)
  go_wp2
  go_ret
  exact ⟨rfl, rfl⟩

set_option maxHeartbeats 1000000 in
/-- Insert of one row, all roads. -/
theorem slTyIns (b n c i vb vo vc : Nat) (cs vs : List Value) (w : World) (hi : i ≤ n) (hn0 : 0 < n) (hnc : n ≤ c) (hbig : (n + 1) * 32 ≤ 140737488355328) (hvb : vb ≠ b)
    (hcl : cs.length = n * 2) (hvl : vs.length = 1 * 2)
    (hcs : ∀ (j : Nat) v, cs[j]? = some v → w.cell? ⟨b, j, none⟩ = some v) (hsp : ∀ j, j < c * 2 → (w.cell? ⟨b, j, none⟩).isSome = true) (hfz : ∀ j, w.frozen? ⟨b, j, none⟩ = false)
    (hvs : ∀ (j : Nat) v, vs[j]? = some v → w.cell? ⟨vb, vo + j, none⟩ = some v) (h1c : ∀ v ∈ cs, v.oneCell' = true) (h1v : ∀ v ∈ vs, v.oneCell' = true) :
    Calls Tryd.prog 46 #[.slice (some ⟨b, 0, none⟩) n c, .int .i64 i, .slice (some ⟨vb, vo, none⟩) 1 vc] w fun e w' =>
      ∃ b' cap', e = .returned (.slice (some ⟨b', 0, none⟩) (n + 1) cap') ∧ n + 1 ≤ cap' ∧ RawSl w b w' b' (cs.take (i * 2) ++ (vs ++ cs.drop (i * 2))) := by
  have htl : (cs.take (i * 2)).length = i * 2 := by rw [List.length_take, hcl]; omega
  have hbw : b < w.heap.size := block_lt_of_cell (hcs 0 _ (List.getElem?_eq_getElem (by rw [hcl]; omega)))
  have hget : ∀ (j : Nat) u, (cs.take (i * 2) ++ (vs ++ cs.drop (i * 2)))[j]? = some u → (j < i * 2 ∧ cs[j]? = some u) ∨ (i * 2 ≤ j ∧ j < (i + 1) * 2 ∧ vs[j - i * 2]? = some u) ∨ ((i + 1) * 2 ≤ j ∧ (cs.drop (i * 2))[j - (i + 1) * 2]? = some u) := by
    intro j u hj
    rw [List.getElem?_append] at hj
    split at hj
    · rename_i h
      rw [htl] at h
      rw [List.getElem?_take, if_pos h] at hj
      exact .inl ⟨h, hj⟩
    · rename_i h
      rw [htl] at h hj
      rw [List.getElem?_append] at hj
      split at hj
      · rename_i h2
        rw [hvl] at h2
        exact .inr (.inl ⟨by omega, by omega, hj⟩)
      · rename_i h2
        rw [hvl] at h2 hj
        refine .inr (.inr ⟨by omega, ?_⟩)
        rwa [show j - (i + 1) * 2 = j - i * 2 - 1 * 2 by omega]
  have hdl : (cs.drop (i * 2)).length = (n - i) * 2 := by rw [List.length_drop, hcl]; omega
  by_cases he : i = n
  · subst he
    have hd0 : cs.drop (i * 2) = [] := List.drop_eq_nil_of_le (by omega)
    by_cases hr : i + 1 ≤ c
    · refine Calls.mono (slTyEndRoom b i c vb vo 1 vc vs w (by omega) hr hvl hsp hfz hvs h1v) ?_
      rintro e w' ⟨h1, rfl⟩
      obtain ⟨k1, k2, k3, k4, k5⟩ := setCells_keep b vs (i * 2) w
      refine ⟨b, c, h1, hr, ⟨k2, k3, k4, by omega, .inl rfl, fun j u hj => ?_, fun b2 _ h => k5 b2 h⟩⟩
      have hss : ∀ j, j < vs.length → (w.cell? ⟨b, i * 2 + j, none⟩).isSome = true := fun j hj => hsp _ (by omega)
      rw [setCells_get hss]
      rcases hget j u hj with ⟨h, h'⟩ | ⟨h, h', h2⟩ | ⟨h, h2⟩
      · rw [if_neg (by omega)]; exact hcs j u h'
      · rw [if_pos (by omega)]; exact h2
      · rw [hd0] at h2; simp at h2
    · refine Calls.mono (slTyEndGrow b i c vb vo 1 vc cs vs w (by omega) hnc (by omega) hbig hcl hvl hcs hvs h1v) ?_
      rintro e w' ⟨h1, rfl⟩
      refine ⟨_, _, h1, grownCap_ge w _ _ _, ⟨rfl, rfl, rfl, by simp [World.alloc], .inr (Nat.le_refl _), fun j u hj => ?_, fun b2 h _ => ?_⟩⟩
      · rw [World.cell?_alloc_at (w := w.drew) _ _ w.heap.size j rfl]
        have hjl : j < (cs ++ vs).length := by
          rw [List.length_append, hcl, hvl]
          rcases hget j u hj with ⟨h, h'⟩ | ⟨h, h', h2⟩ | ⟨h, h2⟩
          · omega
          · omega
          · rw [hd0] at h2; simp at h2
        rw [Array.getElem?_append_left (by rw [List.size_toArray]; exact hjl), List.getElem?_toArray]
        rw [hd0, List.append_nil, List.take_of_length_le (by omega)] at hj
        exact hj
      · show (w.drew.alloc _).heap[b2]? = _
        simp only [World.alloc]
        rw [Array.getElem?_push_lt (by exact h)]
        exact (Array.getElem?_eq_getElem (xs := w.heap) h).symm
  · have hi' : i < n := by omega
    by_cases hr : n + 1 ≤ c
    · refine Calls.mono (slTyShift b n c i vb vo 1 vc cs vs w hi' (by omega) hr (by omega) hvb hcl hvl hcs hsp hfz hvs h1c h1v) ?_
      rintro e w' ⟨h1, rfl⟩
      obtain ⟨k1, k2, k3, k4, k5⟩ := setCells_keep b (cs.drop (i * 2)) ((i + 1) * 2) w.drew
      obtain ⟨l1, l2, l3, l4, l5⟩ := setCells_keep b vs (i * 2) (w.drew.setCells b ((i + 1) * 2) (cs.drop (i * 2)))
      have hs1 : ∀ j, j < (cs.drop (i * 2)).length → (w.drew.cell? ⟨b, (i + 1) * 2 + j, none⟩).isSome = true := fun j hj => hsp _ (by rw [hdl] at hj; omega)
      have hs2 : ∀ j, j < vs.length → ((w.drew.setCells b ((i + 1) * 2) (cs.drop (i * 2))).cell? ⟨b, i * 2 + j, none⟩).isSome = true := fun j hj => setCells_some hs1 (hsp _ (by omega))
      refine ⟨b, c, h1, hr, ⟨by rw [l2, k2]; rfl, by rw [l3, k3]; rfl, by rw [l4, k4]; rfl, by rw [l1, k1]; exact Nat.le_refl _, .inl rfl, fun j u hj => ?_, fun b2 _ h => by rw [l5 b2 h, k5 b2 h]; rfl⟩⟩
      rw [setCells_get hs2, setCells_get hs1]
      rcases hget j u hj with ⟨h, h'⟩ | ⟨h, h', h2⟩ | ⟨h, h2⟩
      · rw [if_neg (by omega), if_neg (by omega)]; exact hcs j u h'
      · rw [if_pos (by omega)]; exact h2
      · have hjj : j - (i + 1) * 2 < (cs.drop (i * 2)).length := by
          rcases Nat.lt_or_ge (j - (i + 1) * 2) (cs.drop (i * 2)).length with hh | hh
          · exact hh
          · rw [List.getElem?_eq_none hh] at h2; cases h2
        rw [if_neg (by omega), if_pos (by omega)]; exact h2
    · refine Calls.mono (slTyGrow b n c i vb vo 1 vc cs vs w hi' (by omega) hnc (by omega) hbig hcl hvl hcs hvs h1c h1v) ?_
      rintro e w' ⟨G, ROW, hG, hR, hRi, h1, rfl⟩
      obtain ⟨w1, hw1⟩ : ∃ w1, w1 = (w.alloc (.cells ROW 39)).drew := ⟨_, rfl⟩
      have hN : ∀ j, j < G * 2 → (w1.cell? ⟨w.heap.size, j, none⟩).isSome = true := fun j hj => by
        rw [hw1]
        show ((w.alloc (.cells ROW 39)).cell? ⟨w.heap.size, j, none⟩).isSome = true
        rw [World.cell?_alloc_at (w := w) ROW _ w.heap.size j rfl, Array.getElem?_eq_getElem (by omega)]; rfl
      have hC : ∀ j u, j < i * 2 → cs[j]? = some u → w1.cell? ⟨w.heap.size, j, none⟩ = some u := fun j u hj hu => by
        rw [hw1]
        show (w.alloc (.cells ROW 39)).cell? ⟨w.heap.size, j, none⟩ = some u
        rw [World.cell?_alloc_at (w := w) ROW _ w.heap.size j rfl, hRi j hj]; exact hu
      have hH : ∀ b2, b2 < w.heap.size → w1.heap[b2]? = w.heap[b2]? := fun b2 h => by
        rw [hw1]
        show (w.alloc _).heap[b2]? = _
        simp only [World.alloc]
        rw [Array.getElem?_push_lt h]
        exact (Array.getElem?_eq_getElem (xs := w.heap) h).symm
      have hS : w1.heap.size = w.heap.size + 1 := by rw [hw1]; show (w.heap.push _).size = _; rw [Array.size_push]
      have hO : w1.os = w.os ∧ w1.tape = w.tape ∧ w1.output = w.output := by rw [hw1]; exact ⟨rfl, rfl, rfl⟩
      rw [← hw1]
      obtain ⟨k1, k2, k3, k4, k5⟩ := setCells_keep w.heap.size vs (i * 2) w1
      obtain ⟨l1, l2, l3, l4, l5⟩ := setCells_keep w.heap.size (cs.drop (i * 2)) ((i + 1) * 2) (w1.setCells w.heap.size (i * 2) vs).drew
      have hs1 : ∀ j, j < vs.length → (w1.cell? ⟨w.heap.size, i * 2 + j, none⟩).isSome = true := fun j hj => hN _ (by omega)
      have hs2 : ∀ j, j < (cs.drop (i * 2)).length → ((w1.setCells w.heap.size (i * 2) vs).drew.cell? ⟨w.heap.size, (i + 1) * 2 + j, none⟩).isSome = true := fun j hj => by
        show ((w1.setCells w.heap.size (i * 2) vs).cell? _).isSome = true
        exact setCells_some hs1 (hN _ (by rw [hdl] at hj; omega))
      refine ⟨_, _, h1, hG, ⟨by rw [l2]; exact k2.trans hO.1, by rw [l3]; exact k3.trans hO.2.1, by rw [l4]; exact k4.trans hO.2.2, by rw [l1]; show w.heap.size ≤ (w1.setCells w.heap.size (i * 2) vs).heap.size; rw [k1, hS]; omega, .inr (Nat.le_refl _), fun j u hj => ?_, fun b2 h _ => ?_⟩⟩
      · rw [setCells_get hs2]
        rcases hget j u hj with ⟨h, h'⟩ | ⟨h, h', h2⟩ | ⟨h, h2⟩
        · rw [if_neg (by omega)]
          show (w1.setCells w.heap.size (i * 2) vs).cell? _ = _
          rw [setCells_get hs1, if_neg (by omega)]; exact hC j u h h'
        · rw [if_neg (by omega)]
          show (w1.setCells w.heap.size (i * 2) vs).cell? _ = _
          rw [setCells_get hs1, if_pos (by omega)]; exact h2
        · have hjj : j - (i + 1) * 2 < (cs.drop (i * 2)).length := by
            rcases Nat.lt_or_ge (j - (i + 1) * 2) (cs.drop (i * 2)).length with hh | hh
            · exact hh
            · rw [List.getElem?_eq_none hh] at h2; cases h2
          rw [if_pos (by omega)]; exact h2
      · rw [l5 b2 (by omega)]
        show (w1.setCells w.heap.size (i * 2) vs).heap[b2]? = _
        rw [k5 b2 (by omega), hH b2 h]
end Go.Proofs

-- WK
set_option linter.unusedVariables false
set_option linter.unusedSimpArgs false
namespace Go.Proofs
open Go.Abs

theorem tys_shape : ∀ (l : List Ty) (r : CV), r ∈ encTys l → r.cells.length = 2
  | [], r, h => by simp [encTys] at h
  | .mk T us :: l, r, h => by
    simp only [encTys, List.mem_cons] at h
    rcases h with rfl | h
    · rfl
    · exact tys_shape l r h
theorem tys_one : ∀ (l : List Ty), (flatC (encTys l)).all CV.one = true
  | [] => rfl
  | .mk T us :: l => by
    simp only [encTys, encTy, flatC, CV.cells, List.all_append, tys_one l, Bool.and_true]
    rfl
theorem encTys_take : ∀ (n : Nat) (l : List Ty), (encTys l).take n = encTys (l.take n)
  | 0, l => rfl
  | n + 1, [] => rfl
  | n + 1, x :: l => by simp only [encTys, List.take_succ_cons, encTys_take n l]

attribute [local irreducible] AK AOps QCalls ECalls

set_option maxHeartbeats 0 in
/-- slices.Clone, as a slice over a block of its own. -/
theorem cloneTyB_calls (x : Ty) (l : List Ty) (hl : l.length ≤ 1099511627776) : GCalls Tryd.prog Tryd.X 13 none [.c (.sl 2 (encTys (x :: l)))] (.bsl 999999 0 2 (l.length + 1)) (some (flatC (encTys (x :: l)))) := by
  have h1 := encTys_length l
  have hlen : ([] ++ encTys (x :: l)).length = l.length + 1 := by simp only [encTys, List.nil_append, List.length_cons, h1]
  have hb : ((([] : List CV).length) + (encTys (x :: l)).length) * 32 ≤ 140737488355328 := by simp only [encTys, List.length_cons, List.length_nil, h1]; omega
  obtain ⟨T, us⟩ := x
  refine GCalls.of Tryd.func13 rfl (fun args w => Tryd.call13 args w) (Nat.le_of_ble_eq_true rfl) [(0, .c (.sl 2 (encTys (.mk T us :: l))))] ⟨[], [], []⟩ rfl rfl fun β => ?_
  have hf := Tryd.func13
  repeat' (first | refine st ?_ | (refine AK.condS rfl (fun h => ?_) (fun h => ?_) <;> first | (cases h; done) | rw [h] | skip) | refine AK.condU rfl ?_ ?_ | refine uW hf rfl rfl ?_ | refine AK.retE Tryd.hX hf rfl rfl rfl rfl ?_ (by with_reducible rfl) | refine AK.retE Tryd.hX hf rfl rfl rfl rfl ?_ ?_ | refine AK.endE Tryd.hX hf rfl rfl rfl rfl ?_ (by with_reducible rfl) | refine AK.endE Tryd.hX hf rfl rfl rfl rfl ?_ ?_ | refine AOps.appendN Tryd.hX kn rfl rfl rfl rfl rfl rfl rfl rfl rfl rfl rfl rfl rfl rfl rfl rfl rfl rfl (fun h => by cases h) rfl rfl rfl hb rfl hlen ?_ | (refine uA rfl ?_ ?_ <;> (try (show (_ : Nat) * _ ≤ _; dsimp only))) | refine AOps.toStr Tryd.hX kn rfl rfl rfl rfl rfl rfl rfl rfl rfl rfl rfl (by first | exact rfl | exact byte1 _) rfl ?_ | ((first | refine AOps.splitT rfl rfl rfl asm (fun h => ?_) | refine AOps.splitF rfl rfl rfl asm (fun h => ?_) | refine AOps.split rfl rfl rfl (fun h => ?_) (fun h => ?_)) <;> (fail_if_success (cases h; done)) <;> rw [h]))
  exact AK.retG Tryd.hX hf rfl rfl rfl

theorem delTy_calls (s : List Ty) (i : Nat) (hi : i < s.length) (hl : s.length ≤ 20000000000) : GCalls Tryd.prog Tryd.X 45 (some (flatC (encTys s))) (.bsl 1000000 0 2 s.length :: [CV.int .i64 (i : Int), CV.int .i64 ((i + 1 : Nat) : Int)].map AV.c)
    (.c (.sl 2 (encTys (s.take i ++ s.drop (i + 1))))) none := by
  have z1 := encTys_length s
  have hc : (flatC (encTys s)).length = s.length * 2 := by rw [flatC_length (tys_shape s), z1]
  have hfl : flatC (encTys (s.take i ++ s.drop (i + 1))) = (flatC (encTys s)).take (i * 2) ++ (flatC (encTys s)).drop ((i + 1) * 2) := by
    rw [encTys_append, flatC_append, flatC_take (tys_shape s) i (by omega), flatC_drop (tys_shape s) (i + 1) (by omega), encTys_take, encTys_drop]
  refine GCalls.raw (fun args w => Tryd.call45 args w) (by omega) (tys_shape _) (tys_one _) ?_
  intro w G b cap vs us hb hGb himm hrel hcells hone hcap hall hus
  simp only [RelL, Rel] at hus
  obtain ⟨_, _, rfl, rfl, _, _, rfl, rfl, rfl⟩ := hus
  have hvl : vs.length = s.length * 2 := by rw [relL_length hrel, hc]
  have h1 := relL_one hrel hone
  refine ⟨vs.take (i * 2) ++ vs.drop ((i + 1) * 2), by rw [hfl]; exact relL_append (relL_take _ hrel) (relL_drop _ hrel), ?_⟩
  have hsp : ∀ o, o < cap * 2 → (w.cell? ⟨b, o, none⟩).isSome = true := fun o ho => by
    obtain ⟨u, hu⟩ := (hall o).1 ho
    rw [hu]; rfl
  have hd : (vs.drop ((i + 1) * 2)).length = (s.length - (i + 1)) * 2 := by rw [List.length_drop, hvl]; omega
  refine Calls.mono (slTyDel s.length cap i b w hi hcap (vs.drop ((i + 1) * 2)) _ hd (fun u hu => h1 u (List.mem_of_mem_drop hu)) (fun j u hj => hcells _ u (by rwa [List.getElem?_drop] at hj)) hsp (fun o => (hall o).2) rfl) ?_
  rintro e w' ⟨e1, rfl⟩
  obtain ⟨k1, k2, k3, k4, k5⟩ := setCells_keep b (vs.drop ((i + 1) * 2)) (i * 2) w.drew
  generalize hzs : [Value.int IntKind.i64 0, Value.slice none 0 0] = zs
  have hzl : zs.length = 2 := by rw [← hzs]; rfl
  obtain ⟨l1, l2, l3, l4, l5⟩ := setCells_keep b zs ((s.length - 1) * 2) (w.drew.setCells b (i * 2) (vs.drop ((i + 1) * 2)))
  have hs1 : ∀ j, j < (vs.drop ((i + 1) * 2)).length → (w.drew.cell? ⟨b, i * 2 + j, none⟩).isSome = true := fun j hj => hsp _ (by rw [hd] at hj; omega)
  have hs2 : ∀ j, j < zs.length → ((w.drew.setCells b (i * 2) (vs.drop ((i + 1) * 2))).cell? ⟨b, (s.length - 1) * 2 + j, none⟩).isSome = true := fun j hj => setCells_some hs1 (hsp _ (by omega))
  have hll : (encTys (s.take i ++ s.drop (i + 1))).length = s.length - 1 := by rw [encTys_length, List.length_append, List.length_take, List.length_drop]; omega
  refine ⟨b, cap, by rw [hll]; exact e1, by omega, ⟨by rw [l2, k2]; rfl, by rw [l3, k3]; rfl, by rw [l4, k4]; rfl, by rw [l1, k1]; exact Nat.le_refl _, .inl rfl, fun j u hj => ?_, fun b2 _ h => by rw [l5 b2 h, k5 b2 h]; rfl⟩⟩
  have htl : (vs.take (i * 2)).length = i * 2 := by rw [List.length_take, hvl]; omega
  rw [setCells_get hs2, setCells_get hs1]
  rw [List.getElem?_append] at hj
  split at hj
  · rename_i h
    rw [htl] at h
    rw [List.getElem?_take, if_pos h] at hj
    rw [if_neg (by omega), if_neg (by omega)]; exact hcells j u hj
  · rename_i h
    rw [htl] at h hj
    have hjj : j - i * 2 < (vs.drop ((i + 1) * 2)).length := by
      rcases Nat.lt_or_ge (j - i * 2) (vs.drop ((i + 1) * 2)).length with hh | hh
      · exact hh
      · rw [List.getElem?_eq_none hh] at hj; cases hj
    rw [if_neg (by omega), if_pos (by omega)]; exact hj

theorem insTy_calls (s : List Ty) (x : Ty) (i : Nat) (h0 : 0 < s.length) (hi : i ≤ s.length) (hl : s.length ≤ 20000000000) : GCalls Tryd.prog Tryd.X 46 (some (flatC (encTys s))) (.bsl 1000000 0 2 s.length :: [CV.int .i64 (i : Int), CV.sl 2 (encTys [x])].map AV.c)
    (.c (.sl 2 (encTys (s.take i ++ x :: s.drop i)))) none := by
  have z1 := encTys_length s
  have hc : (flatC (encTys s)).length = s.length * 2 := by rw [flatC_length (tys_shape s), z1]
  have hfl : flatC (encTys (s.take i ++ x :: s.drop i)) = (flatC (encTys s)).take (i * 2) ++ (flatC (encTys [x]) ++ (flatC (encTys s)).drop (i * 2)) := by
    rw [encTys_append, flatC_append, flatC_take (tys_shape s) i (by omega), flatC_drop (tys_shape s) i (by omega), encTys_take, encTys_drop]
    simp only [encTys, flatC, List.append_nil]
  refine GCalls.raw (fun args w => Tryd.call46 args w) h0 (tys_shape _) (tys_one _) ?_
  intro w G b cap vs us hb hGb himm hrel hcells hone hcap hall hus
  obtain ⟨T, ts⟩ := x
  simp only [RelL, Rel, encTys, encTy, List.length_cons, List.length_nil] at hus
  obtain ⟨_, _, rfl, rfl, _, _, rfl, ⟨base, len, vc, rfl, rfl, hvc, hrows⟩, rfl⟩ := hus
  have hvl : vs.length = s.length * 2 := by rw [relL_length hrel, hc]
  have h1 := relL_one hrel hone
  have hsp : ∀ o, o < cap * 2 → (w.cell? ⟨b, o, none⟩).isSome = true := fun o ho => by
    obtain ⟨u, hu⟩ := (hall o).1 ho
    rw [hu]; rfl
  rcases hrows with hrows | ⟨vb, vo, rfl, hrows⟩
  · simp at hrows
  simp only [RowsG, RowG, CellsG, and_true] at hrows
  obtain ⟨⟨⟨u1, g1, r1, o1⟩, ⟨u2, g2, r2, o2⟩⟩, _⟩ := hrows
  have hvb : vb ≠ b := fun h => by subst h; rw [hGb] at g1; cases g1
  have hvrel : RelL G (flatC (encTys [.mk T ts])) [u1, u2] := by
    simp only [encTys, encTy, flatC, CV.cells, List.append_nil, RelL]
    exact ⟨u1, _, rfl, r1, u2, _, rfl, r2, rfl⟩
  refine ⟨vs.take (i * 2) ++ ([u1, u2] ++ vs.drop (i * 2)), by rw [hfl]; exact relL_append (relL_take _ hrel) (relL_append hvrel (relL_drop _ hrel)), ?_⟩
  refine Calls.mono (slTyIns b s.length cap i vb vo vc vs [u1, u2] w hi h0 hcap (by omega) hvb hvl rfl hcells hsp (fun o => (hall o).2) (fun j v hj => ?_) h1 (relL_one hvrel (tys_one _))) ?_
  · rcases j with _ | _ | j
    · simp at hj; subst hj; exact himm _ _ _ g1
    · simp at hj; subst hj; exact himm _ _ _ g2
    · simp at hj
  · rintro e w' ⟨b', cap', e1, e2, e3⟩
    have hll : (encTys (s.take i ++ Ty.mk T ts :: s.drop i)).length = s.length + 1 := by rw [encTys_length, List.length_append, List.length_cons, List.length_take, List.length_drop]; omega
    exact ⟨b', cap', by rw [hll]; exact e1, by rw [hll]; exact e2, e3⟩
end Go.Proofs

-- WK
set_option linter.unusedVariables false
set_option linter.unusedSimpArgs false
namespace Go.Proofs
open Go.Abs
attribute [local irreducible] AK AOps QCalls ECalls GCalls tCopy

set_option maxHeartbeats 0 in
/-- slices.Insert into a slice without rows. -/
theorem insTy0_calls (T : Int) (us : List Ty) : ECalls Tryd.prog Tryd.X 46 [.v (.own 2 []), .v (.c (.int .i64 0)), .v (.c (.sl 2 [encTy (.mk T us)]))] [.own 2 [encTy (.mk T us)]] [] := by
  refine ECalls.ofL Tryd.func46 rfl (fun args w => Tryd.call46 args w) (Nat.le_of_ble_eq_true rfl) [(0, .own (.tok 1000000 0) 2 ([])), (1, .c (.int .i64 0)), (2, .c (.sl 2 [encTy (.mk T us)]))] [] [(1000000, 0)] [1000000] rfl rfl fun β => ?_; have hf := Tryd.func46
  repeat' (first | refine st ?_ | (refine AK.condS rfl (fun h => ?_) (fun h => ?_) <;> first | (cases h; done) | rw [h] | skip) | refine AK.retE Tryd.hX hf rfl rfl rfl rfl ?_ (by with_reducible rfl) | refine AK.retE Tryd.hX hf rfl rfl rfl rfl ?_ ?_ | refine AK.endE Tryd.hX hf rfl rfl rfl rfl ?_ (by with_reducible rfl) | refine AK.endE Tryd.hX hf rfl rfl rfl rfl ?_ ?_ | (refine uA rfl ?_ ?_ <;> (try (show (_ : Nat) * _ ≤ _; dsimp only))))
  all_goals first | exact rfl | (show _ ≤ _; simp only [List.length_cons, List.length_nil]; omega)

theorem getD_at {s : List Ty} {i : Nat} {t : Ty} (h : s[i]? = some t) : s.getD i ty0 = t := by rw [List.getD_eq_getElem?_getD, h]; rfl

set_option maxHeartbeats 0 in
theorem cmove_calls (P nN : Int) (nS : List UInt8) (args : List Nd) (types s : List Ty) (hP : 40 ≤ P ∧ P ≤ 44) (hf : cFits P args = some types) (hs : sOk s) (hl : s.length ≤ 9999999990) :
    QCalls Tryd.prog Tryd.X 31 [encNd (.mk 2 nN P nS args), .sl 2 (encTys s)] (encCR (cMove P args s)) := by
  have hP2 : P = 40 ∨ P = 41 ∨ P = 42 ∨ P = 43 ∨ P = 44 := by omega
  clear hP
  rcases hP2 with rfl | rfl | rfl | rfl | rfl
  · obtain ⟨rfl, rfl⟩ := cFits_nil hf rfl
    clear hf
    rcases s with _ | ⟨⟨T, us⟩, r⟩
    · rw [show cMove 40 [] [] = cBad 5 from by simp [cMove], encCR_bad (by decide)]
      refine QCalls.of Tryd.func31 rfl (fun args w => Tryd.call31 args w) (Nat.le_of_ble_eq_true rfl) [(0, .c (encNd (.mk 2 nN 40 nS []))), (1, .c (.sl 2 []))] rfl fun β hβ => ?_; have hf := Tryd.func31
      repeat' (first | refine st ?_ | (refine AK.condS rfl (fun h => ?_) (fun h => ?_) <;> first | (cases h; done) | rw [h] | skip) | refine uW hf rfl rfl ?_ | ((first | refine AOps.splitT rfl rfl rfl asm (fun h => ?_) | refine AOps.splitF rfl rfl rfl asm (fun h => ?_) | refine AOps.split rfl rfl rfl (fun h => ?_) (fun h => ?_)) <;> (fail_if_success (cases h; done)) <;> rw [h]))
      all_goals first | exact Wk.refl _ | exact wk_bad rfl rfl
    · rw [show cMove 40 [] (.mk T us :: r) = cOk r from by simp [cMove], encCR_ok']
      have el := len_gt (encTys (.mk T us :: r)) 0 (by simp only [encTys, List.length_cons]; omega)
      have hp := cput0_calls r
      rw [encCR_ok'] at hp
      refine QCalls.of Tryd.func31 rfl (fun args w => Tryd.call31 args w) (Nat.le_of_ble_eq_true rfl) [(0, .c (encNd (.mk 2 nN 40 nS []))), (1, .c (.sl 2 (encTys (.mk T us :: r))))] rfl fun β hβ => ?_; have hf := Tryd.func31
      repeat' (first | refine st ?_ | (refine AK.condS rfl (fun h => ?_) (fun h => ?_) <;> first | (cases h; done) | rw [h] | skip) | refine uW hf rfl rfl ?_ | refine uC rfl hp ?_ | ((first | refine AOps.splitT rfl rfl rfl asm (fun h => ?_) | refine AOps.splitF rfl rfl rfl asm (fun h => ?_) | refine AOps.split rfl rfl rfl (fun h => ?_) (fun h => ?_)) <;> (fail_if_success (cases h; done)) <;> rw [h]))
      all_goals first | exact Wk.refl _ | exact wk_bad rfl rfl
  · obtain ⟨N, p, S, xs, rfl, n1, n2, rfl⟩ := cFits_n hf rfl
    clear hf
    have z1 := encTys_length s
    by_cases c1 : 1 ≤ N
    rotate_left
    · rw [show cMove 41 [.mk 0 N p S xs] s = cBad 5 from by unfold cMove; rw [if_neg (by decide), if_neg (by decide), if_pos rfl]; exact if_neg (fun h => c1 h.1), encCR_bad (by decide)]
      have e1 : decide (N ≥ 1) = false := decide_eq_false c1
      refine QCalls.of Tryd.func31 rfl (fun args w => Tryd.call31 args w) (Nat.le_of_ble_eq_true rfl) [(0, .c (encNd (.mk 2 nN 41 nS [.mk 0 N p S xs]))), (1, .c (.sl 2 (encTys s)))] rfl fun β hβ => ?_; have hf := Tryd.func31
      repeat' (first | refine st ?_ | (refine AK.condS rfl (fun h => ?_) (fun h => ?_) <;> first | (cases h; done) | rw [h] | skip) | refine uW hf rfl rfl ?_ | refine uI rfl (0) rfl (rfl) rfl ?_ | ((first | refine AOps.splitT rfl rfl rfl asm (fun h => ?_) | refine AOps.splitF rfl rfl rfl asm (fun h => ?_) | refine AOps.split rfl rfl rfl (fun h => ?_) (fun h => ?_)) <;> (fail_if_success (cases h; done)) <;> rw [h]))
      all_goals first | exact Wk.refl _ | exact wk_bad rfl rfl
    have e1 : decide (N ≥ 1) = true := decide_eq_true c1
    by_cases c2 : N ≤ s.length
    rotate_left
    · rw [show cMove 41 [.mk 0 N p S xs] s = cBad 5 from by unfold cMove; rw [if_neg (by decide), if_neg (by decide), if_pos rfl]; exact if_neg (fun h => c2 h.2.1), encCR_bad (by decide)]
      have e2 : decide (N ≤ (((encTys s).length : Nat) : Int)) = false := decide_eq_false (by omega)
      refine QCalls.of Tryd.func31 rfl (fun args w => Tryd.call31 args w) (Nat.le_of_ble_eq_true rfl) [(0, .c (encNd (.mk 2 nN 41 nS [.mk 0 N p S xs]))), (1, .c (.sl 2 (encTys s)))] rfl fun β hβ => ?_; have hf := Tryd.func31
      repeat' (first | refine st ?_ | (refine AK.condS rfl (fun h => ?_) (fun h => ?_) <;> first | (cases h; done) | rw [h] | skip) | refine uW hf rfl rfl ?_ | refine uI rfl (0) rfl (rfl) rfl ?_ | ((first | refine AOps.splitT rfl rfl rfl asm (fun h => ?_) | refine AOps.splitF rfl rfl rfl asm (fun h => ?_) | refine AOps.split rfl rfl rfl (fun h => ?_) (fun h => ?_)) <;> (fail_if_success (cases h; done)) <;> rw [h]))
      all_goals first | exact Wk.refl _ | exact wk_bad rfl rfl
    have e2 : decide (N ≤ (((encTys s).length : Nat) : Int)) = true := decide_eq_true (by omega)
    obtain ⟨j, hj⟩ : ∃ j : Nat, N - 1 = (j : Int) := ⟨(N - 1).toNat, by omega⟩
    have hw : IntKind.i64.wrap (N - 1) = (j : Int) := by rw [w64 (by omega) (by omega), hj]
    obtain ⟨t, ht⟩ : ∃ t, s[j]? = some t := ⟨s[j]'(by omega), by simp⟩
    have htm := hs t (List.mem_of_getElem? ht)
    have htz := htm.2
    have hc := Copied_calls t (by omega)
    have hat := tys_at ht
    have hgd := getD_at ht
    have hN : ndN ([Nd.mk 0 N p S xs].getD 0 nd0) = N := rfl
    have hNj : (N - 1).toNat = j := by omega
    have hsp : cMove 41 [.mk 0 N p S xs] s = if tCopy t = true then cOk (t :: s) else cBad 5 := by
      unfold cMove
      rw [if_neg (by decide), if_neg (by decide), if_pos rfl, hN, hNj, hgd]
      by_cases hcc : tCopy t = true
      · rw [if_pos ⟨c1, c2, hcc⟩, if_pos hcc]
      · rw [if_neg (fun h => hcc h.2.2), if_neg hcc]
    rw [hsp]
    obtain ⟨T, us⟩ := t
    cases hcc : tCopy (.mk T us) with
    | false =>
      rw [hcc] at hc
      rw [if_neg (by decide), encCR_bad (by decide)]
      refine QCalls.of Tryd.func31 rfl (fun args w => Tryd.call31 args w) (Nat.le_of_ble_eq_true rfl) [(0, .c (encNd (.mk 2 nN 41 nS [.mk 0 N p S xs]))), (1, .c (.sl 2 (encTys s)))] rfl fun β hβ => ?_; have hf := Tryd.func31
      repeat' (first | refine st ?_ | (refine AK.condS rfl (fun h => ?_) (fun h => ?_) <;> first | (cases h; done) | rw [h] | skip) | refine uW hf rfl rfl ?_ | refine uI rfl (0) rfl (rfl) rfl ?_ | refine uI rfl j hw hat rfl ?_ | refine uC rfl hc ?_ | ((first | refine AOps.splitT rfl rfl rfl asm (fun h => ?_) | refine AOps.splitF rfl rfl rfl asm (fun h => ?_) | refine AOps.split rfl rfl rfl (fun h => ?_) (fun h => ?_)) <;> (fail_if_success (cases h; done)) <;> rw [h]))
      all_goals first | exact Wk.refl _ | exact wk_bad rfl rfl
    | true =>
      rw [hcc] at hc
      have hp := cput_calls s [.mk T us]
      rw [encCR_ok'] at hp
      rw [if_pos rfl, encCR_ok']
      refine QCalls.of Tryd.func31 rfl (fun args w => Tryd.call31 args w) (Nat.le_of_ble_eq_true rfl) [(0, .c (encNd (.mk 2 nN 41 nS [.mk 0 N p S xs]))), (1, .c (.sl 2 (encTys s)))] rfl fun β hβ => ?_; have hf := Tryd.func31
      repeat' (first | refine st ?_ | (refine AK.condS rfl (fun h => ?_) (fun h => ?_) <;> first | (cases h; done) | rw [h] | skip) | refine uW hf rfl rfl ?_ | refine uI rfl (0) rfl (rfl) rfl ?_ | refine uI rfl j hw hat rfl ?_ | refine uC rfl hc ?_ | refine uC rfl hp ?_ | ((first | refine AOps.splitT rfl rfl rfl asm (fun h => ?_) | refine AOps.splitF rfl rfl rfl asm (fun h => ?_) | refine AOps.split rfl rfl rfl (fun h => ?_) (fun h => ?_)) <;> (fail_if_success (cases h; done)) <;> rw [h]))
      all_goals first | exact Wk.refl _ | exact wk_bad rfl rfl
  · obtain ⟨rfl, rfl⟩ := cFits_nil hf rfl
    clear hf
    rcases s with _ | ⟨⟨T, us⟩, _ | ⟨⟨U, vs⟩, q⟩⟩
    · rw [show cMove 42 [] [] = cBad 5 from by simp [cMove], encCR_bad (by decide)]
      refine QCalls.of Tryd.func31 rfl (fun args w => Tryd.call31 args w) (Nat.le_of_ble_eq_true rfl) [(0, .c (encNd (.mk 2 nN 42 nS []))), (1, .c (.sl 2 []))] rfl fun β hβ => ?_; have hf := Tryd.func31
      repeat' (first | refine st ?_ | (refine AK.condS rfl (fun h => ?_) (fun h => ?_) <;> first | (cases h; done) | rw [h] | skip) | refine uW hf rfl rfl ?_ | ((first | refine AOps.splitT rfl rfl rfl asm (fun h => ?_) | refine AOps.splitF rfl rfl rfl asm (fun h => ?_) | refine AOps.split rfl rfl rfl (fun h => ?_) (fun h => ?_)) <;> (fail_if_success (cases h; done)) <;> rw [h]))
      all_goals first | exact Wk.refl _ | exact wk_bad rfl rfl
    · rw [show cMove 42 [] [.mk T us] = cBad 5 from by simp [cMove], encCR_bad (by decide)]
      refine QCalls.of Tryd.func31 rfl (fun args w => Tryd.call31 args w) (Nat.le_of_ble_eq_true rfl) [(0, .c (encNd (.mk 2 nN 42 nS []))), (1, .c (.sl 2 (encTys [.mk T us])))] rfl fun β hβ => ?_; have hf := Tryd.func31
      repeat' (first | refine st ?_ | (refine AK.condS rfl (fun h => ?_) (fun h => ?_) <;> first | (cases h; done) | rw [h] | skip) | refine uW hf rfl rfl ?_ | ((first | refine AOps.splitT rfl rfl rfl asm (fun h => ?_) | refine AOps.splitF rfl rfl rfl asm (fun h => ?_) | refine AOps.split rfl rfl rfl (fun h => ?_) (fun h => ?_)) <;> (fail_if_success (cases h; done)) <;> rw [h]))
      all_goals first | exact Wk.refl _ | exact wk_bad rfl rfl
    · rw [show cMove 42 [] (.mk T us :: .mk U vs :: q) = cOk (.mk U vs :: .mk T us :: q) from by simp [cMove], encCR_ok']
      have el := len_gt (encTys (.mk T us :: .mk U vs :: q)) 1 (by simp only [encTys, List.length_cons]; omega)
      have hp := cput_calls q [.mk U vs, .mk T us]
      rw [encCR_ok'] at hp
      refine QCalls.of Tryd.func31 rfl (fun args w => Tryd.call31 args w) (Nat.le_of_ble_eq_true rfl) [(0, .c (encNd (.mk 2 nN 42 nS []))), (1, .c (.sl 2 (encTys (.mk T us :: .mk U vs :: q))))] rfl fun β hβ => ?_; have hf := Tryd.func31
      repeat' (first | refine st ?_ | (refine AK.condS rfl (fun h => ?_) (fun h => ?_) <;> first | (cases h; done) | rw [h] | skip) | refine uW hf rfl rfl ?_ | refine uC rfl hp ?_ | refine uI rfl (0) rfl (rfl) rfl ?_ | refine uI rfl (1) rfl (rfl) rfl ?_ | ((first | refine AOps.splitT rfl rfl rfl asm (fun h => ?_) | refine AOps.splitF rfl rfl rfl asm (fun h => ?_) | refine AOps.split rfl rfl rfl (fun h => ?_) (fun h => ?_)) <;> (fail_if_success (cases h; done)) <;> rw [h]))
      all_goals first | exact Wk.refl _ | exact wk_bad rfl rfl
  · obtain ⟨N, p, S, xs, rfl, n1, n2, rfl⟩ := cFits_n hf rfl
    clear hf
    have z1 := encTys_length s
    obtain ⟨j, rfl⟩ := Int.eq_ofNat_of_zero_le n1
    have hN : ndN ([Nd.mk 0 (j : Int) p S xs].getD 0 nd0) = (j : Int) := rfl
    by_cases c1 : (j : Int) < s.length
    rotate_left
    · rw [show cMove 43 [.mk 0 j p S xs] s = cBad 5 from by unfold cMove; rw [if_neg (by decide), if_neg (by decide), if_neg (by decide), if_pos rfl, hN]; exact if_neg c1, encCR_bad (by decide)]
      have e2 : decide ((j : Int) < (((encTys s).length : Nat) : Int)) = false := decide_eq_false (by omega)
      refine QCalls.of Tryd.func31 rfl (fun args w => Tryd.call31 args w) (Nat.le_of_ble_eq_true rfl) [(0, .c (encNd (.mk 2 nN 43 nS [.mk 0 j p S xs]))), (1, .c (.sl 2 (encTys s)))] rfl fun β hβ => ?_; have hf := Tryd.func31
      repeat' (first | refine st ?_ | (refine AK.condS rfl (fun h => ?_) (fun h => ?_) <;> first | (cases h; done) | rw [h] | skip) | refine uW hf rfl rfl ?_ | refine uI rfl (0) rfl (rfl) rfl ?_ | ((first | refine AOps.splitT rfl rfl rfl asm (fun h => ?_) | refine AOps.splitF rfl rfl rfl asm (fun h => ?_) | refine AOps.split rfl rfl rfl (fun h => ?_) (fun h => ?_)) <;> (fail_if_success (cases h; done)) <;> rw [h]))
      all_goals first | exact Wk.refl _ | exact wk_bad rfl rfl
    have hjs : j < s.length := by omega
    have e2 : decide ((j : Int) < (((encTys s).length : Nat) : Int)) = true := decide_eq_true (by omega)
    obtain ⟨t, ht⟩ : ∃ t, s[j]? = some t := ⟨s[j], by simp [hjs]⟩
    have hat := tys_at ht
    rw [show cMove 43 [.mk 0 j p S xs] s = cOk (t :: (s.take j ++ s.drop (j + 1))) from by
      unfold cMove; rw [if_neg (by decide), if_neg (by decide), if_neg (by decide), if_pos rfl, hN, if_pos c1, Int.toNat_natCast, getD_at ht], encCR_ok']
    have hw : IntKind.i64.wrap ((j : Int) + 1) = ((j + 1 : Nat) : Int) := by rw [w64 (by omega) (by omega)]; rfl
    have hdel := delTy_calls s j hjs (by omega)
    rw [← hw] at hdel
    have hp := cput_calls (s.take j ++ s.drop (j + 1)) [t] (by rw [List.length_append, List.length_take, List.length_drop]; omega)
    rw [encCR_ok'] at hp
    clear ht
    rcases s with _ | ⟨a, l⟩
    · simp at hjs
    have hcl := cloneTyB_calls a l (by simp only [List.length_cons] at hl; omega)
    obtain ⟨T, us⟩ := t
    refine QCalls.of Tryd.func31 rfl (fun args w => Tryd.call31 args w) (Nat.le_of_ble_eq_true rfl) [(0, .c (encNd (.mk 2 nN 43 nS [.mk 0 j p S xs]))), (1, .c (.sl 2 (encTys (a :: l))))] rfl fun β hβ => ?_; have hf := Tryd.func31
    repeat' (first | refine st ?_ | (refine AK.condS rfl (fun h => ?_) (fun h => ?_) <;> first | (cases h; done) | rw [h] | skip) | refine uW hf rfl rfl ?_ | refine uI rfl (0) rfl (rfl) rfl ?_ | refine uI rfl j rfl hat rfl ?_ | refine uC rfl hp ?_ | refine AOps.callgN kn rfl rfl rfl rfl rfl rfl hcl rfl ?_ | refine AOps.callgC kn rfl rfl rfl rfl rfl rfl rfl hdel rfl rfl ?_ | ((first | refine AOps.splitT rfl rfl rfl asm (fun h => ?_) | refine AOps.splitF rfl rfl rfl asm (fun h => ?_) | refine AOps.split rfl rfl rfl (fun h => ?_) (fun h => ?_)) <;> (fail_if_success (cases h; done)) <;> rw [h]))
    all_goals first | exact Wk.refl _ | exact wk_bad rfl rfl
  · obtain ⟨N, p, S, xs, rfl, n1, n2, rfl⟩ := cFits_n hf rfl
    clear hf
    have z1 := encTys_length s
    obtain ⟨j, rfl⟩ := Int.eq_ofNat_of_zero_le n1
    have hN : ndN ([Nd.mk 0 (j : Int) p S xs].getD 0 nd0) = (j : Int) := rfl
    rcases s with _ | ⟨⟨T, us⟩, r⟩
    · rw [show cMove 44 [.mk 0 j p S xs] [] = cBad 5 from by simp [cMove], encCR_bad (by decide)]
      have e2 : decide ((j : Int) < ((([] : List CV).length : Nat) : Int)) = false := decide_eq_false (by simp)
      refine QCalls.of Tryd.func31 rfl (fun args w => Tryd.call31 args w) (Nat.le_of_ble_eq_true rfl) [(0, .c (encNd (.mk 2 nN 44 nS [.mk 0 j p S xs]))), (1, .c (.sl 2 []))] rfl fun β hβ => ?_; have hf := Tryd.func31
      repeat' (first | refine st ?_ | (refine AK.condS rfl (fun h => ?_) (fun h => ?_) <;> first | (cases h; done) | rw [h] | skip) | refine uW hf rfl rfl ?_ | refine uI rfl (0) rfl (rfl) rfl ?_ | ((first | refine AOps.splitT rfl rfl rfl asm (fun h => ?_) | refine AOps.splitF rfl rfl rfl asm (fun h => ?_) | refine AOps.split rfl rfl rfl (fun h => ?_) (fun h => ?_)) <;> (fail_if_success (cases h; done)) <;> rw [h]))
      all_goals first | exact Wk.refl _ | exact wk_bad rfl rfl
    have hsp : cMove 44 [.mk 0 j p S xs] (.mk T us :: r) = if (j : Int) < r.length + 1 then cOk (r.take j ++ .mk T us :: r.drop j) else cBad 5 := by
      unfold cMove
      rw [if_neg (by decide), if_neg (by decide), if_neg (by decide), if_neg (by decide), if_pos rfl]
      simp only [hN, Int.toNat_natCast]
    rw [hsp]
    simp only [List.length_cons] at hl z1
    by_cases c1 : (j : Int) < r.length + 1
    rotate_left
    · rw [if_neg c1, encCR_bad (by decide)]
      have e2 : decide ((j : Int) < (((encTys (.mk T us :: r)).length : Nat) : Int)) = false := decide_eq_false (by omega)
      refine QCalls.of Tryd.func31 rfl (fun args w => Tryd.call31 args w) (Nat.le_of_ble_eq_true rfl) [(0, .c (encNd (.mk 2 nN 44 nS [.mk 0 j p S xs]))), (1, .c (.sl 2 (encTys (.mk T us :: r))))] rfl fun β hβ => ?_; have hf := Tryd.func31
      repeat' (first | refine st ?_ | (refine AK.condS rfl (fun h => ?_) (fun h => ?_) <;> first | (cases h; done) | rw [h] | skip) | refine uW hf rfl rfl ?_ | refine uI rfl (0) rfl (rfl) rfl ?_ | ((first | refine AOps.splitT rfl rfl rfl asm (fun h => ?_) | refine AOps.splitF rfl rfl rfl asm (fun h => ?_) | refine AOps.split rfl rfl rfl (fun h => ?_) (fun h => ?_)) <;> (fail_if_success (cases h; done)) <;> rw [h]))
      all_goals first | exact Wk.refl _ | exact wk_bad rfl rfl
    rw [if_pos c1, encCR_ok']
    have e2 : decide ((j : Int) < (((encTys (.mk T us :: r)).length : Nat) : Int)) = true := decide_eq_true (by omega)
    rcases r with _ | ⟨a, l⟩
    · obtain rfl : j = 0 := by simp at c1; omega
      have hcl := cloneTy_calls [] (by simp)
      have hin := insTy0_calls T us
      refine QCalls.of Tryd.func31 rfl (fun args w => Tryd.call31 args w) (Nat.le_of_ble_eq_true rfl) [(0, .c (encNd (.mk 2 nN 44 nS [.mk 0 (0 : Nat) p S xs]))), (1, .c (.sl 2 (encTys [.mk T us])))] rfl fun β hβ => ?_; have hf := Tryd.func31
      repeat' (first | refine st ?_ | (refine AK.condS rfl (fun h => ?_) (fun h => ?_) <;> first | (cases h; done) | rw [h] | skip) | refine uW hf rfl rfl ?_ | refine uI rfl (0) rfl (rfl) rfl ?_ | refine AOps.calle kn rfl rfl (hcl) rfl (by (repeat' (first | exact rfl | exact trivial | refine ⟨_, _, rfl, ?_, ?_⟩ | refine ⟨_, _, _, rfl, rfl, ?_, ?_⟩)); done) rfl rfl rfl rfl rfl rfl rfl rfl rfl rfl rfl rfl rfl rfl ?_ | refine AOps.calle kn rfl rfl (hin) rfl (by (repeat' (first | exact rfl | exact trivial | refine ⟨_, _, rfl, ?_, ?_⟩ | refine ⟨_, _, _, rfl, rfl, ?_, ?_⟩)); done) rfl rfl rfl rfl rfl rfl rfl rfl rfl rfl rfl rfl rfl rfl ?_ | ((first | refine AOps.splitT rfl rfl rfl asm (fun h => ?_) | refine AOps.splitF rfl rfl rfl asm (fun h => ?_) | refine AOps.split rfl rfl rfl (fun h => ?_) (fun h => ?_)) <;> (fail_if_success (cases h; done)) <;> rw [h]))
      all_goals first | exact Wk.refl _ | exact wk_bad rfl rfl
    · have hcl := cloneTyB_calls a l (by simp only [List.length_cons] at hl; omega)
      have hin := insTy_calls (a :: l) (.mk T us) j (by simp) (by omega) (by simp only [List.length_cons] at *; omega)
      refine QCalls.of Tryd.func31 rfl (fun args w => Tryd.call31 args w) (Nat.le_of_ble_eq_true rfl) [(0, .c (encNd (.mk 2 nN 44 nS [.mk 0 j p S xs]))), (1, .c (.sl 2 (encTys (.mk T us :: a :: l))))] rfl fun β hβ => ?_; have hf := Tryd.func31
      repeat' (first | refine st ?_ | (refine AK.condS rfl (fun h => ?_) (fun h => ?_) <;> first | (cases h; done) | rw [h] | skip) | refine uW hf rfl rfl ?_ | refine uI rfl (0) rfl (rfl) rfl ?_ | refine AOps.callgN kn rfl rfl rfl rfl rfl rfl hcl rfl ?_ | refine AOps.callgC kn rfl rfl rfl rfl rfl rfl rfl hin rfl rfl ?_ | ((first | refine AOps.splitT rfl rfl rfl asm (fun h => ?_) | refine AOps.splitF rfl rfl rfl asm (fun h => ?_) | refine AOps.split rfl rfl rfl (fun h => ?_) (fun h => ?_)) <;> (fail_if_success (cases h; done)) <;> rw [h]))
      all_goals first | exact Wk.refl _ | exact wk_bad rfl rfl
end Go.Proofs

set_option linter.unusedVariables false
set_option linter.unusedSimpArgs false
namespace Go.Abs
def Sm (r : CR) : Prop := ∀ t ∈ r.1.1, tySize t ≤ 2000
def smL (s : List Ty) : Prop := ∀ t ∈ s, tySize t ≤ 2000
theorem Sm_ok {s : List Ty} (h : smL s) : Sm (cOk s) := h
theorem Sm_bad (e : Int) : Sm (cBad e) := fun t ht => by simp [cBad] at ht
theorem Sm_ite {p : Prop} [Decidable p] {a b : CR} (h1 : Sm a) (h2 : Sm b) : Sm (if p then a else b) := by
  by_cases c : p
  · rw [if_pos c]; exact h1
  · rw [if_neg c]; exact h2
theorem sm_cons {t : Ty} {s : List Ty} (h1 : tySize t ≤ 2000) (h2 : smL s) : smL (t :: s) := fun x hx => by
  rcases List.mem_cons.1 hx with rfl | hx
  · exact h1
  · exact h2 x hx
theorem sm_sOk {s : List Ty} (h : sOk s) : smL s := fun t ht => by have := (h t ht).2; omega
theorem sm_append {a b : List Ty} (h1 : smL a) (h2 : smL b) : smL (a ++ b) := fun x hx => by
  rcases List.mem_append.1 hx with hx | hx
  · exact h1 x hx
  · exact h2 x hx
theorem Sm_merge {a b : CR} (ha : Sm a) (hb : Sm b) : Sm (cMerge a b) := by
  unfold cMerge
  refine Sm_ite (Sm_bad _) (Sm_ite (Sm_bad _) (Sm_ite hb (Sm_ite ha (Sm_bad _))))
theorem tyArg_size (a : Ty) (i : Nat) : tySize (tyArg a i) ≤ tySize a := by
  obtain ⟨T, l⟩ := a
  show tySize (l.getD i ty0) ≤ _
  rw [List.getD_eq_getElem?_getD]
  cases h : l[i]? with
  | none => simp only [Option.getD_none, ty0, tySize, tysSize]; omega
  | some x =>
    have := tysSize_mem (List.mem_of_getElem? h)
    simp only [Option.getD_some, tySize]; omega
theorem tyArgs_size (a : Ty) : tysSize (tyArgs a) + 1 = tySize a := by
  obtain ⟨T, l⟩ := a; rfl
theorem getD_size {s : List Ty} (h : ∀ t ∈ s, tySize t ≤ 300) (i : Nat) : tySize (s.getD i ty0) ≤ 300 := by
  rw [List.getD_eq_getElem?_getD]
  cases hh : s[i]? with
  | none => simp only [Option.getD_none, ty0, tySize, tysSize]; omega
  | some x => exact h x (List.mem_of_getElem? hh)
theorem cFit_ok : ∀ (ws : List UInt8) (l : List Nd) (acc r : List Ty), sOk acc → cFit ws l acc = some r → sOk r
  | [], l, acc, r, h, e => by simp only [cFit] at e; simp at e; subst e; exact h
  | w :: ws, [], acc, r, h, e => by simp only [cFit] at e; simp at e; subst e; exact h
  | w :: ws, .mk kind N P S xs :: l, acc, r, h, e => by
    simp only [cFit] at e
    split at e
    · split at e
      · exact cFit_ok ws l acc r h e
      · cases e
    · split at e
      · split at e
        · exact cFit_ok ws l acc r h e
        · cases e
      · split at e
        · split at e
          · rename_i h3 h4
            refine cFit_ok ws l _ r (fun t ht => ?_) e
            rcases List.mem_append.1 ht with ht | ht
            · exact h t ht
            · simp at ht; subst ht; exact tyOk_good (tParse_good h4)
          · cases e
        · exact cFit_ok ws l acc r h e
theorem cFits_ok {P : Int} {args : List Nd} {types : List Ty} (h : cFits P args = some types) : sOk types := by
  unfold cFits at h
  split at h
  · cases h
  · exact cFit_ok _ _ _ _ sOk_nil h
theorem cFits_len {P : Int} {args : List Nd} {types : List Ty} (h : cFits P args = some types) : types.length ≤ args.length := by
  unfold cFits at h
  split at h
  · cases h
  · have : ∀ (ws : List UInt8) (l : List Nd) (acc r : List Ty), cFit ws l acc = some r → r.length ≤ acc.length + l.length := by
      intro ws
      induction ws with
      | nil => intro l acc r e; simp only [cFit] at e; simp at e; subst e; omega
      | cons w ws ih =>
        intro l acc r e
        cases l with
        | nil => simp only [cFit] at e; simp at e; subst e; omega
        | cons x l =>
          obtain ⟨k, n, p, s, xs⟩ := x
          simp only [cFit] at e
          simp only [List.length_cons]
          split at e
          · split at e
            · have := ih _ _ _ e; omega
            · cases e
          · split at e
            · split at e
              · have := ih _ _ _ e; omega
              · cases e
            · split at e
              · split at e
                · have := ih _ _ _ e; simp only [List.length_append, List.length_cons, List.length_nil] at this; omega
                · cases e
              · have := ih _ _ _ e; omega
    have := this _ _ _ _ h
    simpa using this
theorem sm_tys {l : List Ty} (h : tysSize l ≤ 2000) : smL l := fun t ht => by have := tysSize_mem ht; omega

theorem Sm_move (P : Int) (args : List Nd) (s : List Ty) (hs : sOk s) : Sm (cMove P args s) := by
  have h0 := sm_sOk hs
  have hg := fun i => getD_size (fun t ht => (hs t ht).2) (s := s) i
  unfold cMove
  refine Sm_ite ?_ (Sm_ite ?_ (Sm_ite ?_ (Sm_ite ?_ (Sm_ite ?_ (Sm_bad _)))))
  · rcases s with _ | ⟨a, r⟩
    · exact Sm_bad _
    · exact Sm_ok (fun t ht => h0 t (List.mem_cons_of_mem _ ht))
  · rcases s with _ | ⟨a, _ | ⟨b, r⟩⟩
    · exact Sm_bad _
    · exact Sm_bad _
    · exact Sm_ok (sm_cons (h0 b (by simp)) (sm_cons (h0 a (by simp)) (fun t ht => h0 t (by simp [ht]))))
  · exact Sm_ite (Sm_ok (sm_cons (by have := hg (ndN (args.getD 0 nd0) - 1).toNat; omega) h0)) (Sm_bad _)
  · refine Sm_ite (Sm_ok (sm_cons (by have := hg (ndN (args.getD 0 nd0)).toNat; omega) (sm_append ?_ ?_))) (Sm_bad _)
    · exact fun t ht => h0 t (List.mem_of_mem_take ht)
    · exact fun t ht => h0 t (List.mem_of_mem_drop ht)
  · rcases s with _ | ⟨a, r⟩
    · exact Sm_bad _
    · refine Sm_ite (Sm_ok (sm_append ?_ (sm_cons (h0 a (by simp)) ?_))) (Sm_bad _)
      · exact fun t ht => h0 t (List.mem_cons_of_mem _ (List.mem_of_mem_take ht))
      · exact fun t ht => h0 t (List.mem_cons_of_mem _ (List.mem_of_mem_drop ht))

theorem Sm_shape (P : Int) (codes : List (List Ty → CR)) (types s : List Ty) (hs : sOk s) (ht : sOk types) (hc : ∀ i s', smL s' → Sm (cCode codes i s')) : Sm (cShaping P codes types s) := by
  have h0 := sm_sOk hs
  have hg := fun i => getD_size (fun t h => (ht t h).2) (s := types) i
  have g0 := hg 0
  unfold cShaping
  refine Sm_ite (Sm_ok (sm_cons (by simp only [tySize, tysSize]; omega) h0)) (Sm_ite (Sm_ok (sm_cons (by simp only [tySize, tysSize]; omega) h0)) ?_)
  rcases s with _ | ⟨a, r⟩
  · exact Sm_bad _
  have ha := (hs a (by simp)).2
  have hr : smL r := fun t h => h0 t (by simp [h])
  have b0 := tyArg_size a 0
  have b1 := tyArg_size a 1
  have b2 := tyArgs_size a
  dsimp only
  refine Sm_ite (Sm_ok (sm_cons (by simp only [tySize, tysSize]; omega) hr)) (Sm_ite (Sm_ok (sm_cons (by simp only [tySize, tysSize]; omega) hr)) (Sm_ite (Sm_ok (sm_cons (by simp only [tySize, tysSize]; omega) hr)) (Sm_ite ?_ (Sm_ite ?_ (Sm_ite ?_ (Sm_ite ?_ (Sm_ite ?_ (Sm_ite ?_ (Sm_ite ?_ (Sm_ite ?_ (Sm_bad _)))))))))))
  · rcases r with _ | ⟨b, q⟩
    · exact Sm_bad _
    · have hb := (hs b (by simp)).2
      exact Sm_ok (sm_cons (by simp only [tySize, tysSize]; omega) (fun t h => hr t (by simp [h])))
  · exact Sm_ite (Sm_ok (sm_append (sm_tys (by omega)) hr)) (Sm_bad _)
  · exact Sm_ite (Sm_ok (sm_cons (by omega) hr)) (Sm_bad _)
  · exact Sm_ite (Sm_ok (sm_cons (by omega) hr)) (Sm_bad _)
  · rcases r with _ | ⟨b, q⟩
    · exact Sm_bad _
    · exact Sm_ite (Sm_ok hr) (Sm_bad _)
  · exact Sm_ite (Sm_merge (hc _ _ (sm_cons (by omega) hr)) (hc _ _ (sm_cons (by omega) hr))) (Sm_bad _)
  · exact Sm_ite (Sm_merge (hc _ _ hr) (hc _ _ (sm_cons (by omega) hr))) (Sm_bad _)
  · exact Sm_ite (Sm_merge (hc _ _ (sm_cons (by omega) (sm_cons (by omega) hr))) (hc _ _ hr)) (Sm_bad _)
theorem Sm_items (P : Int) (codes : List (List Ty → CR)) (types s : List Ty) (hs : sOk s) (ht : sOk types) (hl : types.length ≤ 2) (hc : ∀ i s', smL s' → Sm (cCode codes i s')) : Sm (cItems P codes types s) := by
  have h0 := sm_sOk hs
  have htt : tysSize types ≤ 600 := by
    rcases types with _ | ⟨a, _ | ⟨b, _ | ⟨c, l⟩⟩⟩
    · simp [tysSize]
    · have := (ht a (by simp)).2; simp only [tysSize]; omega
    · have h1 := (ht a (by simp)).2
      have h2 := (ht b (by simp)).2
      simp only [tysSize]; omega
    · simp at hl
  unfold cItems
  refine Sm_ite (Sm_ite (Sm_ok (sm_cons (by simp only [tySize]; omega) h0)) (Sm_bad _)) (Sm_ite ?_ (Sm_ite ?_ (Sm_ite ?_ (Sm_ite ?_ (Sm_bad _)))))
  · rcases s with _ | ⟨a, r⟩
    · exact Sm_bad _
    · exact Sm_ite (Sm_ok (sm_cons (by simp [tySize, tysSize]) (fun t h => h0 t (by simp [h])))) (Sm_bad _)
  · rcases s with _ | ⟨a, r⟩
    · exact Sm_bad _
    · have hr : smL r := fun t h => h0 t (by simp [h])
      have ha := (hs a (by simp)).2
      have b0 := tyArg_size a 0
      have b2 := tyArgs_size a
      refine Sm_ite (Sm_merge (hc _ _ (sm_cons ?_ hr)) (Sm_ok hr)) (Sm_bad _)
      split
      · simp only [tySize]; omega
      · omega
  · rcases s with _ | ⟨a, _ | ⟨b, q⟩⟩
    · exact Sm_bad _
    · exact Sm_bad _
    · have hb := (hs b (by simp)).2
      have b1 := tyArg_size b 1
      exact Sm_ite (Sm_ok (sm_cons (by simp only [tySize, tysSize]; omega) (fun t h => h0 t (by simp [h])))) (Sm_bad _)
  · rcases s with _ | ⟨a, _ | ⟨b, _ | ⟨c, q⟩⟩⟩
    · exact Sm_bad _
    · exact Sm_bad _
    · exact Sm_bad _
    · exact Sm_ite (Sm_ok (fun t h => h0 t (by simp at h ⊢; rcases h with h | h <;> simp [h]))) (Sm_bad _)
theorem Sm_control (P : Int) (args : List Nd) (codes : List (List Ty → CR)) (types s : List Ty) (hs : sOk s) (ht : sOk types) (hl : types.length ≤ 2) (hc : ∀ i s', smL s' → Sm (cCode codes i s')) : Sm (cControl P args codes types s) := by
  have h0 := sm_sOk hs
  have htt : tysSize types ≤ 600 := by
    rcases types with _ | ⟨a, _ | ⟨b, _ | ⟨c, l⟩⟩⟩
    · simp [tysSize]
    · have := (ht a (by simp)).2; simp only [tysSize]; omega
    · have h1 := (ht a (by simp)).2
      have h2 := (ht b (by simp)).2
      simp only [tysSize]; omega
    · simp at hl
  unfold cControl
  refine Sm_ite (Sm_ite (Sm_bad _) (Sm_ite (Sm_bad _) (Sm_ok (sm_cons (by simp only [tySize]; omega) h0)))) (Sm_ite ?_ (Sm_ite ?_ (Sm_ite ?_ (Sm_ite ?_ (Sm_bad _)))))
  · rcases s with _ | ⟨a, r⟩
    · exact Sm_bad _
    · have hr : smL r := fun t h => h0 t (by simp [h])
      exact Sm_ite (Sm_merge (hc _ _ hr) (hc _ _ hr)) (Sm_bad _)
  · rcases s with _ | ⟨a, r⟩
    · exact Sm_bad _
    · have hr : smL r := fun t h => h0 t (by simp [h])
      exact Sm_ite (Sm_ite (Sm_bad _) (Sm_ok hr)) (Sm_bad _)
  · rcases s with _ | ⟨a, _ | ⟨b, q⟩⟩
    · exact Sm_bad _
    · exact Sm_bad _
    · have hb := (hs b (by simp)).2
      have b1 := tyArg_size b 1
      exact Sm_ite (Sm_ok (sm_cons (by omega) (fun t h => h0 t (by simp [h])))) (Sm_bad _)
  · rcases s with _ | ⟨a, r⟩
    · exact Sm_bad _
    · have hr : smL r := fun t h => h0 t (by simp [h])
      exact Sm_ite (Sm_bad _) (Sm_ite (Sm_bad _) (Sm_ok (sm_cons (h0 a (by simp)) (hc 0 r hr))))
theorem Sm_numbers (P : Int) (s : List Ty) (hs : sOk s) : Sm (cNumbers P s) := by
  have h0 := sm_sOk hs
  unfold cNumbers
  rcases s with _ | ⟨a, _ | ⟨b, q⟩⟩
  all_goals
    dsimp only
    repeat' (first | refine Sm_ite ?_ ?_ | exact Sm_bad _ | refine Sm_ok (sm_cons (by simp [tySize, tysSize]) ?_) | exact fun t h => h0 t (by simp [h]) | (intro t h; simp at h))
  all_goals exact fun t h => h0 t (by simp at h ⊢; simp [h])
theorem Sm_data (P : Int) (types s : List Ty) (hs : sOk s) (ht : sOk types) : Sm (cData P types s) := by
  have h0 := sm_sOk hs
  have g0 := getD_size (fun t h => (ht t h).2) (s := types) 0
  unfold cData
  rcases s with _ | ⟨a, r⟩
  · exact Sm_bad _
  have hr : smL r := fun t h => h0 t (by simp [h])
  dsimp only
  refine Sm_ite ?_ (Sm_ite (Sm_ite (Sm_ok (sm_cons (by simp [tySize, tysSize]) hr)) (Sm_bad _)) (Sm_ite (Sm_ite (Sm_ok h0) (Sm_bad _)) (Sm_ite ?_ (Sm_ite ?_ (Sm_ite (Sm_ite (Sm_ok (sm_cons (by simp [tySize, tysSize]) hr)) (Sm_bad _))
    (Sm_ite (Sm_ite (Sm_ok (sm_cons (by simp only [tySize, tysSize]; omega) hr)) (Sm_bad _)) (Sm_ite (Sm_ite (fun t h => by simp at h) (Sm_bad _)) (Sm_bad _))))))))
  · rcases r with _ | ⟨b, q⟩
    · exact Sm_bad _
    · exact Sm_ite (Sm_ok (sm_cons (by simp [tySize, tysSize]) (fun t h => hr t (by simp [h])))) (Sm_bad _)
  · rcases r with _ | ⟨b, q⟩
    · exact Sm_bad _
    · exact Sm_ite (Sm_ok hr) (Sm_bad _)
  · rcases r with _ | ⟨b, q⟩
    · exact Sm_bad _
    · exact Sm_ite (Sm_ok hr) (Sm_bad _)
theorem Sm_world (P : Int) (types s : List Ty) (hs : sOk s) : Sm (cWorld P types s) := by
  have h0 := sm_sOk hs
  unfold cWorld
  refine Sm_ite (Sm_ok (sm_cons (by simp [tySize, tysSize]) h0)) (Sm_ite (Sm_ok (sm_cons (by simp [tySize, tysSize]) h0)) ?_)
  rcases s with _ | ⟨a, r⟩
  · exact Sm_bad _
  have ha := (hs a (by simp)).2
  have b0 := tyArg_size a 0
  have hr : smL r := fun t h => h0 t (by simp [h])
  dsimp only
  refine Sm_ite ?_ (Sm_ite ?_ (Sm_ite ?_ (Sm_ite ?_ (Sm_ite ?_ (Sm_bad _)))))
  · rcases r with _ | ⟨b, q⟩
    · exact Sm_bad _
    · exact Sm_ite (Sm_ok (sm_cons (by simp only [tySize, tysSize]; omega) (fun t h => hr t (by simp [h])))) (Sm_bad _)
  · exact Sm_ite (Sm_ok (sm_cons (by simp only [tySize, tysSize]; omega) h0)) (Sm_bad _)
  · rcases r with _ | ⟨b, q⟩
    · exact Sm_bad _
    · exact Sm_ite (Sm_ok (sm_cons (by simp only [tySize, tysSize]; omega) (fun t h => hr t (by simp [h])))) (Sm_bad _)
  · exact Sm_ite (Sm_ok (sm_cons (by simp only [tySize, tysSize]; omega) hr)) (Sm_bad _)
  · rcases r with _ | ⟨b, _ | ⟨c, q⟩⟩
    · exact Sm_bad _
    · exact Sm_bad _
    · exact Sm_ite (Sm_ok (sm_cons (by simp only [tySize, tysSize]; omega) (fun t h => hr t (by simp [h])))) (Sm_bad _)
theorem Sm_row : ∀ (l : List Nd) (o : List Ty × Bool), smL o.1 → Sm (cRow l o)
  | [], o, h => by simp only [cRow]; exact h
  | n :: l, o, h => by
    simp only [cRow]
    refine Sm_ite (Sm_bad _) ?_
    by_cases h2 : (cLook (cStep n o.1)).2 ≠ 0
    · rw [if_pos h2]; exact Sm_bad _
    · rw [if_neg h2]
      obtain ⟨a1, a2, a3, a4⟩ := cLook_ok (r := cStep n o.1) (by simpa using h2)
      rw [a2]
      exact Sm_row l _ (sm_sOk (sOk_good a4))
theorem cCode_cons (x : Nd) (l : List Nd) (i : Nat) (s : List Ty) : cCode (cCodes (x :: l)) i s = match i with | 0 => cRow (ndArgs x) (s, false) | i + 1 => cCode (cCodes l) i s := by
  rw [cCodes_cons]
  cases i <;> simp [cCode]
theorem Sm_codes : ∀ (l : List Nd) (i : Nat) (s' : List Ty), smL s' → Sm (cCode (cCodes l) i s')
  | [], i, s', h => by simp only [cCodes, cCode, List.getD_nil]; exact Sm_bad _
  | x :: l, 0, s', h => by rw [cCode_cons]; exact Sm_row _ _ h
  | x :: l, i + 1, s', h => by rw [cCode_cons]; exact Sm_codes l i s' h
theorem cFits_two {P : Int} {args : List Nd} {types : List Ty} (h : cFits P args = some types) : types.length ≤ 2 := by
  have h1 := cFits_len h
  by_cases h66 : P = 66
  · subst h66
    obtain ⟨x, y, N, p, S, xs, t, u, rfl, rfl, _⟩ := cFits_ttc h rfl
    simp
  · have h2 : (cShape P).length ≤ 2 := by
      unfold cShape
      repeat' split
      all_goals simp_all
    unfold cFits at h
    split at h
    · cases h
    · omega
theorem Sm_instr (P : Int) (args : List Nd) (types s : List Ty) (hs : sOk s) (hf : cFits P args = some types) : Sm (cInstr P args (cCodes args) types s) := by
  have ht := cFits_ok hf
  have hl := cFits_two hf
  have hg := getD_size (fun t h => (ht t h).2) (s := types) 0
  unfold cInstr
  refine Sm_ite (Sm_move _ _ _ hs) (Sm_ite (Sm_ite (Sm_ok (sm_cons (by omega) (sm_sOk hs))) (Sm_bad _)) (Sm_ite (Sm_shape _ _ _ _ hs ht (Sm_codes args)) (Sm_ite (Sm_items _ _ _ _ hs ht hl (Sm_codes args))
    (Sm_ite (Sm_control _ _ _ _ _ hs ht hl (Sm_codes args)) (Sm_ite (Sm_numbers _ _ hs) (Sm_ite (Sm_data _ _ _ hs ht) (Sm_world _ _ _ hs)))))))
theorem Sm_step (n : Nd) (s : List Ty) (hs : sOk s) : Sm (cStep n s) := by
  obtain ⟨kind, N, P, S, args⟩ := n
  simp only [cStep]
  refine Sm_ite (Sm_row _ _ (sm_sOk hs)) (Sm_ite (Sm_bad _) ?_)
  cases hf : cFits P args with
  | none => exact Sm_bad _
  | some types => exact Sm_instr P args types s hs hf
end Go.Abs
