/- What Node of package kind and TypeNode, goodType, GoodType, typeOf and ParseType of touchstoneref answer. -/
-- WIDE
-- OLDASM
import Derived.Test.YtcinhjfonmjneaaKind10
set_option linter.unusedVariables false
set_option linter.unusedSimpArgs false
namespace Go.Proofs
open Go.Abs
theorem rGood_no (T : Int) (args : List Ty) (d left : Int) (h : d = 0 ∨ left = 0 ∨ arity T ≠ args.length) : rGood (.mk T args) d left = (false, 0) := by simp only [rGood, if_pos h]
theorem rGood_at (T : Int) (args : List Ty) (d left : Int) (h : ¬ (d = 0 ∨ left = 0 ∨ arity T ≠ args.length)) :
    rGood (.mk T args) d left = if (rGoods args (d - 1) (left - 1)).1 then (if T = 13 ∨ T = 15 then headComp args else true, (rGoods args (d - 1) (left - 1)).2) else (false, 0) := by
  simp only [rGood, if_neg h]
  rcases rGoods args (d - 1) (left - 1) with ⟨b, m⟩
  cases b <;> rfl
theorem rGoods_nil (d m : Int) : rGoods [] d m = (true, m) := rfl
theorem rGoods_cons (t : Ty) (l : List Ty) (d n : Int) : rGoods (t :: l) d n = if (rGood t d n).1 then rGoods l d (rGood t d n).2 else (false, 0) := by
  simp only [rGoods]
  rcases rGood t d n with ⟨b, m⟩
  cases b <;> rfl
mutual
theorem rGood_le : ∀ (t : Ty) (d n : Int), 0 ≤ n → 0 ≤ (rGood t d n).2 ∧ (rGood t d n).2 ≤ n
  | .mk T args, d, n, hn => by
    by_cases h : d = 0 ∨ n = 0 ∨ arity T ≠ args.length
    · rw [rGood_no _ _ _ _ h]; simp only; omega
    · rw [rGood_at _ _ _ _ h]
      have ih := rGoods_le args (d - 1) (n - 1) (by omega)
      split
      · simp only; omega
      · simp only; omega
theorem rGoods_le : ∀ (l : List Ty) (d n : Int), 0 ≤ n → 0 ≤ (rGoods l d n).2 ∧ (rGoods l d n).2 ≤ n
  | [], d, n, hn => by rw [rGoods_nil]; simp only; omega
  | t :: l, d, n, hn => by
    have ih := rGood_le t d n hn
    rw [rGoods_cons]
    split
    · have ih2 := rGoods_le l d _ ih.1; omega
    · simp only; omega
end
theorem rType_no (kind nn p : Int) (s : List UInt8) (args : List Nd) (d left : Int) (h : kind ≠ 2 ∨ nn ≠ 0 ∨ s ≠ [] ∨ d = 0 ∨ left - 1 < 0) : rType (.mk kind nn p s args) d left = (ty0, left - 1) := by simp only [rType, if_pos h]
theorem rType_at (kind nn p : Int) (s : List UInt8) (args : List Nd) (d left : Int) (h : ¬ (kind ≠ 2 ∨ nn ≠ 0 ∨ s ≠ [] ∨ d = 0 ∨ left - 1 < 0)) :
    rType (.mk kind nn p s args) d left = (.mk p (rTypes args (d - 1) (left - 1)).1, (rTypes args (d - 1) (left - 1)).2) := by simp only [rType, if_neg h]
theorem rTypes_nil (d m : Int) : rTypes [] d m = ([], m) := rfl
theorem rTypes_cons (t : Nd) (l : List Nd) (d n : Int) : rTypes (t :: l) d n = ((rType t d n).1 :: (rTypes l d (rType t d n).2).1, (rTypes l d (rType t d n).2).2) := rfl
mutual
theorem rType_size : ∀ (t : Nd) (d n : Int), tySize (rType t d n).1 ≤ ndSize t
  | .mk kind nn p s args, d, n => by
    simp only [rType, ndSize]
    split
    · simp only [ty0, tySize, tysSize]; omega
    · have := rTypes_size args (d - 1) (n - 1)
      simp only [tySize]; omega
theorem rTypes_size : ∀ (l : List Nd) (d n : Int), tysSize (rTypes l d n).1 ≤ ndsSize l
  | [], d, n => by simp [rTypes_nil, tysSize]
  | t :: l, d, n => by
    rw [rTypes_cons]
    have h1 := rType_size t d n
    have h2 := rTypes_size l d (rType t d n).2
    simp only [tysSize, ndsSize]; omega
end
attribute [local irreducible] AK AOps QCalls ECalls tyNd tyNds tGood rGood rGoods headComp tComp rType rTypes arity

theorem ret_any (T : Int) : (if T = 13 ∨ T = 15 then headComp [] else true) = (if T = 13 ∨ T = 15 then headComp [] else true) := rfl

set_option maxHeartbeats 0 in
theorem goodType_calls : ∀ (t : Ty) (d left : Int), tySize t ≤ 1048577 → d ≤ 1000 → -1099511627776 + tySize t ≤ d → 0 ≤ left → left ≤ 300 →
    QCalls Try.prog Try.X 104 [encTy t, .int .i64 d, .int .i64 left] (.tup [.bool (rGood t d left).1, .int .i64 (rGood t d left).2])
  | .mk T args => by
    intro d left ht hd0 hd hn0 hn
    simp only [tySize] at ht hd
    have hl1 := tysSize_len args
    have hin : ∀ x ∈ args, ∀ m : Int, 0 ≤ m → m ≤ 300 → QCalls Try.prog Try.X 104 [encTy x, .int .i64 (IntKind.i64.wrap (d - 1)), .int .i64 m] (.tup [.bool (rGood x (d - 1) m).1, .int .i64 (rGood x (d - 1) m).2]) := by
      intro x hx m h0 h1
      have := tysSize_mem hx
      rw [w64 (by omega) (by omega)]
      exact goodType_calls x (d - 1) m (by omega) (by omega) (by omega) h0 h1
    by_cases c1 : d = 0
    · have e1 : (d == 0) = true := by simp [c1]
      rw [rGood_no T args d left (.inl c1)]
      refine QCalls.of Try.func104 rfl (fun args w => Try.call104 args w) (Nat.le_of_ble_eq_true rfl) [(0, .c (encTy (.mk T args))), (1, .c (.int .i64 d)), (2, .c (.int .i64 left))] rfl fun β hβ => ?_; have hf := Try.func104
      repeat' (first | refine AK.runP Try.hX Try.mixed 300 rfl ?_ | refine AK.condTe rfl (by first | with_reducible assumption | (simp only [cond_true, cond_false, Bool.not_true, Bool.not_false, bne_self_eq_false, Int.reduceBNe, Int.reduceBEq]; with_reducible assumption)) ?_ | refine AK.condFe rfl (by first | with_reducible assumption | (simp only [cond_true, cond_false, Bool.not_true, Bool.not_false, bne_self_eq_false, Int.reduceBNe, Int.reduceBEq]; with_reducible assumption)) ?_ | (refine AK.condS rfl (fun h => ?_) (fun h => ?_) <;> first | (cases h; done) | rw [h] | skip) | refine AK.retQ Try.hX hf rfl rfl ?_ | refine AK.retE Try.hX hf rfl rfl rfl rfl ?_ (by with_reducible rfl) | refine AK.retE Try.hX hf rfl rfl rfl rfl ?_ ?_ | refine AK.endE Try.hX hf rfl rfl rfl rfl ?_ (by with_reducible rfl) | refine AK.endE Try.hX hf rfl rfl rfl rfl ?_ ?_ | refine AK.region Try.mixed rfl ?_ | refine AOps.done ?_ | refine AOps.runS Try.hX kn rfl ?_ | refine AOps.callq kn rfl rfl rfl rfl (made_calls T) ?_ | refine AOps.box kn rfl rfl rfl rfl rfl rfl ?_ | refine AOps.alloc Try.hX kn rfl rfl rfl rfl rfl rfl rfl ?_ | refine AOps.store Try.hX kn rfl rfl rfl rfl rfl rfl rfl rfl rfl rfl rfl ?_ | refine AOps.buildSlice Try.hX kn rfl rfl rfl rfl rfl rfl rfl rfl rfl rfl rfl rfl ?_ | refine AOps.append Try.hX kn rfl rfl rfl rfl rfl rfl rfl rfl rfl rfl rfl rfl rfl rfl rfl rfl rfl rfl rfl rfl rfl ?_ ?_ | refine AOps.toStr Try.hX kn rfl rfl rfl rfl rfl rfl rfl rfl rfl rfl rfl (by first | exact rfl | exact byte1 _) rfl ?_ | refine AOps.buildArr Try.hX kn rfl rfl rfl rfl rfl rfl rfl rfl ?_ | refine AOps.indexArr Try.hX kn rfl rfl rfl rfl rfl rfl rfl rfl rfl rfl rfl rfl ?_ | refine AOps.runP1 Try.hX kn rfl rfl ?_ | (refine AOps.splitT rfl rfl rfl (by first | with_reducible assumption | (simp only [cond_true, cond_false, Bool.not_true, Bool.not_false, bne_self_eq_false, Int.reduceBNe, Int.reduceBEq]; with_reducible assumption)) (fun h => ?_) <;> (fail_if_success (cases h; done)) <;> rw [h]) | (refine AOps.splitF rfl rfl rfl (by first | with_reducible assumption | (simp only [cond_true, cond_false, Bool.not_true, Bool.not_false, bne_self_eq_false, Int.reduceBNe, Int.reduceBEq]; with_reducible assumption)) (fun h => ?_) <;> (fail_if_success (cases h; done)) <;> rw [h]) | (refine AOps.split rfl rfl rfl (fun h => ?_) (fun h => ?_) <;> (fail_if_success (cases h; done)) <;> rw [h]) | refine AOps.drawn (by kernel_rfl) ?_)
      all_goals rfl
    have e1 : (d == 0) = false := by simp [c1]
    by_cases c2 : left = 0
    · have e2 : (left == 0) = true := by simp [c2]
      rw [rGood_no T args d left (.inr (.inl c2))]
      refine QCalls.of Try.func104 rfl (fun args w => Try.call104 args w) (Nat.le_of_ble_eq_true rfl) [(0, .c (encTy (.mk T args))), (1, .c (.int .i64 d)), (2, .c (.int .i64 left))] rfl fun β hβ => ?_; have hf := Try.func104
      repeat' (first | refine AK.runP Try.hX Try.mixed 300 rfl ?_ | refine AK.condTe rfl (by first | with_reducible assumption | (simp only [cond_true, cond_false, Bool.not_true, Bool.not_false, bne_self_eq_false, Int.reduceBNe, Int.reduceBEq]; with_reducible assumption)) ?_ | refine AK.condFe rfl (by first | with_reducible assumption | (simp only [cond_true, cond_false, Bool.not_true, Bool.not_false, bne_self_eq_false, Int.reduceBNe, Int.reduceBEq]; with_reducible assumption)) ?_ | (refine AK.condS rfl (fun h => ?_) (fun h => ?_) <;> first | (cases h; done) | rw [h] | skip) | refine AK.retQ Try.hX hf rfl rfl ?_ | refine AK.retE Try.hX hf rfl rfl rfl rfl ?_ (by with_reducible rfl) | refine AK.retE Try.hX hf rfl rfl rfl rfl ?_ ?_ | refine AK.endE Try.hX hf rfl rfl rfl rfl ?_ (by with_reducible rfl) | refine AK.endE Try.hX hf rfl rfl rfl rfl ?_ ?_ | refine AK.region Try.mixed rfl ?_ | refine AOps.done ?_ | refine AOps.runS Try.hX kn rfl ?_ | refine AOps.callq kn rfl rfl rfl rfl (made_calls T) ?_ | refine AOps.box kn rfl rfl rfl rfl rfl rfl ?_ | refine AOps.alloc Try.hX kn rfl rfl rfl rfl rfl rfl rfl ?_ | refine AOps.store Try.hX kn rfl rfl rfl rfl rfl rfl rfl rfl rfl rfl rfl ?_ | refine AOps.buildSlice Try.hX kn rfl rfl rfl rfl rfl rfl rfl rfl rfl rfl rfl rfl ?_ | refine AOps.append Try.hX kn rfl rfl rfl rfl rfl rfl rfl rfl rfl rfl rfl rfl rfl rfl rfl rfl rfl rfl rfl rfl rfl ?_ ?_ | refine AOps.toStr Try.hX kn rfl rfl rfl rfl rfl rfl rfl rfl rfl rfl rfl (by first | exact rfl | exact byte1 _) rfl ?_ | refine AOps.buildArr Try.hX kn rfl rfl rfl rfl rfl rfl rfl rfl ?_ | refine AOps.indexArr Try.hX kn rfl rfl rfl rfl rfl rfl rfl rfl rfl rfl rfl rfl ?_ | refine AOps.runP1 Try.hX kn rfl rfl ?_ | (refine AOps.splitT rfl rfl rfl (by first | with_reducible assumption | (simp only [cond_true, cond_false, Bool.not_true, Bool.not_false, bne_self_eq_false, Int.reduceBNe, Int.reduceBEq]; with_reducible assumption)) (fun h => ?_) <;> (fail_if_success (cases h; done)) <;> rw [h]) | (refine AOps.splitF rfl rfl rfl (by first | with_reducible assumption | (simp only [cond_true, cond_false, Bool.not_true, Bool.not_false, bne_self_eq_false, Int.reduceBNe, Int.reduceBEq]; with_reducible assumption)) (fun h => ?_) <;> (fail_if_success (cases h; done)) <;> rw [h]) | (refine AOps.split rfl rfl rfl (fun h => ?_) (fun h => ?_) <;> (fail_if_success (cases h; done)) <;> rw [h]) | refine AOps.drawn (by kernel_rfl) ?_)
      all_goals rfl
    have e2 : (left == 0) = false := by simp [c2]
    by_cases c3 : arity T ≠ args.length
    · have e3 : (arity T != (((encTys args).length : Nat) : Int)) = true := by rw [encTys_length]; simpa using c3
      rw [rGood_no T args d left (.inr (.inr c3))]
      refine QCalls.of Try.func104 rfl (fun args w => Try.call104 args w) (Nat.le_of_ble_eq_true rfl) [(0, .c (encTy (.mk T args))), (1, .c (.int .i64 d)), (2, .c (.int .i64 left))] rfl fun β hβ => ?_; have hf := Try.func104
      repeat' (first | refine AK.runP Try.hX Try.mixed 300 rfl ?_ | refine AK.condTe rfl (by first | with_reducible assumption | (simp only [cond_true, cond_false, Bool.not_true, Bool.not_false, bne_self_eq_false, Int.reduceBNe, Int.reduceBEq]; with_reducible assumption)) ?_ | refine AK.condFe rfl (by first | with_reducible assumption | (simp only [cond_true, cond_false, Bool.not_true, Bool.not_false, bne_self_eq_false, Int.reduceBNe, Int.reduceBEq]; with_reducible assumption)) ?_ | (refine AK.condS rfl (fun h => ?_) (fun h => ?_) <;> first | (cases h; done) | rw [h] | skip) | refine AK.retQ Try.hX hf rfl rfl ?_ | refine AK.retE Try.hX hf rfl rfl rfl rfl ?_ (by with_reducible rfl) | refine AK.retE Try.hX hf rfl rfl rfl rfl ?_ ?_ | refine AK.endE Try.hX hf rfl rfl rfl rfl ?_ (by with_reducible rfl) | refine AK.endE Try.hX hf rfl rfl rfl rfl ?_ ?_ | refine AK.region Try.mixed rfl ?_ | refine AOps.done ?_ | refine AOps.runS Try.hX kn rfl ?_ | refine AOps.callq kn rfl rfl rfl rfl (made_calls T) ?_ | refine AOps.box kn rfl rfl rfl rfl rfl rfl ?_ | refine AOps.alloc Try.hX kn rfl rfl rfl rfl rfl rfl rfl ?_ | refine AOps.store Try.hX kn rfl rfl rfl rfl rfl rfl rfl rfl rfl rfl rfl ?_ | refine AOps.buildSlice Try.hX kn rfl rfl rfl rfl rfl rfl rfl rfl rfl rfl rfl rfl ?_ | refine AOps.append Try.hX kn rfl rfl rfl rfl rfl rfl rfl rfl rfl rfl rfl rfl rfl rfl rfl rfl rfl rfl rfl rfl rfl ?_ ?_ | refine AOps.toStr Try.hX kn rfl rfl rfl rfl rfl rfl rfl rfl rfl rfl rfl (by first | exact rfl | exact byte1 _) rfl ?_ | refine AOps.buildArr Try.hX kn rfl rfl rfl rfl rfl rfl rfl rfl ?_ | refine AOps.indexArr Try.hX kn rfl rfl rfl rfl rfl rfl rfl rfl rfl rfl rfl rfl ?_ | refine AOps.runP1 Try.hX kn rfl rfl ?_ | (refine AOps.splitT rfl rfl rfl (by first | with_reducible assumption | (simp only [cond_true, cond_false, Bool.not_true, Bool.not_false, bne_self_eq_false, Int.reduceBNe, Int.reduceBEq]; with_reducible assumption)) (fun h => ?_) <;> (fail_if_success (cases h; done)) <;> rw [h]) | (refine AOps.splitF rfl rfl rfl (by first | with_reducible assumption | (simp only [cond_true, cond_false, Bool.not_true, Bool.not_false, bne_self_eq_false, Int.reduceBNe, Int.reduceBEq]; with_reducible assumption)) (fun h => ?_) <;> (fail_if_success (cases h; done)) <;> rw [h]) | (refine AOps.split rfl rfl rfl (fun h => ?_) (fun h => ?_) <;> (fail_if_success (cases h; done)) <;> rw [h]) | refine AOps.drawn (by kernel_rfl) ?_)
      all_goals rfl
    have e3 : (arity T != (((encTys args).length : Nat) : Int)) = false := by rw [encTys_length]; simpa using c3
    have hK := rGood_at T args d left (by simp only [not_or]; exact ⟨c1, c2, c3⟩)
    rw [hK]
    refine QCalls.of Try.func104 rfl (fun args w => Try.call104 args w) (Nat.le_of_ble_eq_true rfl) [(0, .c (encTy (.mk T args))), (1, .c (.int .i64 d)), (2, .c (.int .i64 left))] rfl fun β hβ => ?_; have hf := Try.func104
    repeat' (first | refine AK.runP Try.hX Try.mixed 300 rfl ?_ | refine AK.condTe rfl (by first | with_reducible assumption | (simp only [cond_true, cond_false, Bool.not_true, Bool.not_false, bne_self_eq_false, Int.reduceBNe, Int.reduceBEq]; with_reducible assumption)) ?_ | refine AK.condFe rfl (by first | with_reducible assumption | (simp only [cond_true, cond_false, Bool.not_true, Bool.not_false, bne_self_eq_false, Int.reduceBNe, Int.reduceBEq]; with_reducible assumption)) ?_ | (refine AK.condS rfl (fun h => ?_) (fun h => ?_) <;> first | (cases h; done) | rw [h] | skip) | refine AK.retQ Try.hX hf rfl rfl ?_ | refine AK.retE Try.hX hf rfl rfl rfl rfl ?_ (by with_reducible rfl) | refine AK.retE Try.hX hf rfl rfl rfl rfl ?_ ?_ | refine AK.endE Try.hX hf rfl rfl rfl rfl ?_ (by with_reducible rfl) | refine AK.endE Try.hX hf rfl rfl rfl rfl ?_ ?_ | refine AK.region Try.mixed rfl ?_ | refine AOps.done ?_ | refine AOps.runS Try.hX kn rfl ?_ | refine AOps.callq kn rfl rfl rfl rfl (made_calls T) ?_ | refine AOps.box kn rfl rfl rfl rfl rfl rfl ?_ | refine AOps.alloc Try.hX kn rfl rfl rfl rfl rfl rfl rfl ?_ | refine AOps.store Try.hX kn rfl rfl rfl rfl rfl rfl rfl rfl rfl rfl rfl ?_ | refine AOps.buildSlice Try.hX kn rfl rfl rfl rfl rfl rfl rfl rfl rfl rfl rfl rfl ?_ | refine AOps.append Try.hX kn rfl rfl rfl rfl rfl rfl rfl rfl rfl rfl rfl rfl rfl rfl rfl rfl rfl rfl rfl rfl rfl ?_ ?_ | refine AOps.toStr Try.hX kn rfl rfl rfl rfl rfl rfl rfl rfl rfl rfl rfl (by first | exact rfl | exact byte1 _) rfl ?_ | refine AOps.buildArr Try.hX kn rfl rfl rfl rfl rfl rfl rfl rfl ?_ | refine AOps.indexArr Try.hX kn rfl rfl rfl rfl rfl rfl rfl rfl rfl rfl rfl rfl ?_ | refine AOps.runP1 Try.hX kn rfl rfl ?_ | (refine AOps.splitT rfl rfl rfl (by first | with_reducible assumption | (simp only [cond_true, cond_false, Bool.not_true, Bool.not_false, bne_self_eq_false, Int.reduceBNe, Int.reduceBEq]; with_reducible assumption)) (fun h => ?_) <;> (fail_if_success (cases h; done)) <;> rw [h]) | (refine AOps.splitF rfl rfl rfl (by first | with_reducible assumption | (simp only [cond_true, cond_false, Bool.not_true, Bool.not_false, bne_self_eq_false, Int.reduceBNe, Int.reduceBEq]; with_reducible assumption)) (fun h => ?_) <;> (fail_if_success (cases h; done)) <;> rw [h]) | (refine AOps.split rfl rfl rfl (fun h => ?_) (fun h => ?_) <;> (fail_if_success (cases h; done)) <;> rw [h]) | refine AOps.drawn (by kernel_rfl) ?_)
    refine AK.loopE (α := Nat × Int) (fun z => z.1 ≤ args.length ∧ rGoods args (d - 1) (left - 1) = rGoods (args.drop z.1) (d - 1) z.2 ∧ 0 ≤ z.2 ∧ z.2 ≤ 300) (fun z => args.length - z.1)
      (fun z => [(32, .c (.int .i64 z.1)), (31, .c (.int .i64 (encTys args).length)), (30, .c (.sl 2 (encTys args))), (1, .c (.int .i64 d)), (2, .c (.int .i64 z.2)), (3, .ptr 3 0)])
      (fun z => [(3, [.c (.int .i64 T), .c (.sl 2 (encTys args))])]) (fun _ => []) [3] (0, left - 1)
      ⟨by omega, rfl, by show 0 ≤ left - 1; omega, by show left - 1 ≤ 300; omega⟩ ⟨.inl rfl, .inl rfl, .inl rfl, .inl rfl, .inl (by rw [w64 (by omega) (by omega)]; rfl), .inl rfl, trivial⟩ ⟨rfl, trivial⟩ trivial rfl rfl rfl ?_
    rintro ⟨i, m⟩ ⟨hi, hinv, hm0, hm1⟩ ih
    simp only at hi hinv hm0 hm1
    rcases get_or args i hi with ⟨x, hx, hmem⟩ | he
    · have hc := tys_lt hx
      have hq := hin x hmem m hm0 hm1
      have hle := rGood_le x (d - 1) m hm0
      rw [drop_at hx, rGoods_cons] at hinv
      obtain ⟨U, us⟩ := x
      rcases hr : rGood (.mk U us) (d - 1) m with ⟨b, m'⟩
      rw [hr] at hq hle hinv
      cases b with
      | false =>
        repeat' (first | refine AK.runP Try.hX Try.mixed 300 rfl ?_ | refine AK.condTe rfl (by first | with_reducible assumption | (simp only [cond_true, cond_false, Bool.not_true, Bool.not_false, bne_self_eq_false, Int.reduceBNe, Int.reduceBEq]; with_reducible assumption)) ?_ | refine AK.condFe rfl (by first | with_reducible assumption | (simp only [cond_true, cond_false, Bool.not_true, Bool.not_false, bne_self_eq_false, Int.reduceBNe, Int.reduceBEq]; with_reducible assumption)) ?_ | (refine AK.condS rfl (fun h => ?_) (fun h => ?_) <;> first | (cases h; done) | rw [h] | skip) | refine AK.retQ Try.hX hf rfl rfl ?_ | refine AK.retE Try.hX hf rfl rfl rfl rfl ?_ (by with_reducible rfl) | refine AK.retE Try.hX hf rfl rfl rfl rfl ?_ ?_ | refine AK.endE Try.hX hf rfl rfl rfl rfl ?_ (by with_reducible rfl) | refine AK.endE Try.hX hf rfl rfl rfl rfl ?_ ?_ | refine AK.region Try.mixed rfl ?_ | refine AOps.done ?_ | refine AOps.runS Try.hX kn rfl ?_ | refine AOps.index Try.hX rfl rfl rfl rfl rfl rfl rfl rfl rfl rfl (i) rfl (tys_at hx) rfl ?_ | refine AOps.callq kn rfl rfl rfl rfl (hq) ?_ | refine AOps.box kn rfl rfl rfl rfl rfl rfl ?_ | refine AOps.alloc Try.hX kn rfl rfl rfl rfl rfl rfl rfl ?_ | refine AOps.store Try.hX kn rfl rfl rfl rfl rfl rfl rfl rfl rfl rfl rfl ?_ | refine AOps.buildSlice Try.hX kn rfl rfl rfl rfl rfl rfl rfl rfl rfl rfl rfl rfl ?_ | refine AOps.append Try.hX kn rfl rfl rfl rfl rfl rfl rfl rfl rfl rfl rfl rfl rfl rfl rfl rfl rfl rfl rfl rfl rfl ?_ ?_ | refine AOps.toStr Try.hX kn rfl rfl rfl rfl rfl rfl rfl rfl rfl rfl rfl (by first | exact rfl | exact byte1 _) rfl ?_ | refine AOps.buildArr Try.hX kn rfl rfl rfl rfl rfl rfl rfl rfl ?_ | refine AOps.indexArr Try.hX kn rfl rfl rfl rfl rfl rfl rfl rfl rfl rfl rfl rfl ?_ | refine AOps.runP1 Try.hX kn rfl rfl ?_ | (refine AOps.splitT rfl rfl rfl (by first | with_reducible assumption | (simp only [cond_true, cond_false, Bool.not_true, Bool.not_false, bne_self_eq_false, Int.reduceBNe, Int.reduceBEq]; with_reducible assumption)) (fun h => ?_) <;> (fail_if_success (cases h; done)) <;> rw [h]) | (refine AOps.splitF rfl rfl rfl (by first | with_reducible assumption | (simp only [cond_true, cond_false, Bool.not_true, Bool.not_false, bne_self_eq_false, Int.reduceBNe, Int.reduceBEq]; with_reducible assumption)) (fun h => ?_) <;> (fail_if_success (cases h; done)) <;> rw [h]) | (refine AOps.split rfl rfl rfl (fun h => ?_) (fun h => ?_) <;> (fail_if_success (cases h; done)) <;> rw [h]) | refine AOps.drawn (by kernel_rfl) ?_)
        rw [hinv]; rfl
      | true =>
        repeat' (first | refine AK.runP Try.hX Try.mixed 300 rfl ?_ | refine AK.condTe rfl (by first | with_reducible assumption | (simp only [cond_true, cond_false, Bool.not_true, Bool.not_false, bne_self_eq_false, Int.reduceBNe, Int.reduceBEq]; with_reducible assumption)) ?_ | refine AK.condFe rfl (by first | with_reducible assumption | (simp only [cond_true, cond_false, Bool.not_true, Bool.not_false, bne_self_eq_false, Int.reduceBNe, Int.reduceBEq]; with_reducible assumption)) ?_ | (refine AK.condS rfl (fun h => ?_) (fun h => ?_) <;> first | (cases h; done) | rw [h] | skip) | refine AK.retQ Try.hX hf rfl rfl ?_ | refine AK.retE Try.hX hf rfl rfl rfl rfl ?_ (by with_reducible rfl) | refine AK.retE Try.hX hf rfl rfl rfl rfl ?_ ?_ | refine AK.endE Try.hX hf rfl rfl rfl rfl ?_ (by with_reducible rfl) | refine AK.endE Try.hX hf rfl rfl rfl rfl ?_ ?_ | refine AK.region Try.mixed rfl ?_ | refine AOps.done ?_ | refine AOps.runS Try.hX kn rfl ?_ | refine AOps.index Try.hX rfl rfl rfl rfl rfl rfl rfl rfl rfl rfl (i) rfl (tys_at hx) rfl ?_ | refine AOps.callq kn rfl rfl rfl rfl (hq) ?_ | refine AOps.box kn rfl rfl rfl rfl rfl rfl ?_ | refine AOps.alloc Try.hX kn rfl rfl rfl rfl rfl rfl rfl ?_ | refine AOps.store Try.hX kn rfl rfl rfl rfl rfl rfl rfl rfl rfl rfl rfl ?_ | refine AOps.buildSlice Try.hX kn rfl rfl rfl rfl rfl rfl rfl rfl rfl rfl rfl rfl ?_ | refine AOps.append Try.hX kn rfl rfl rfl rfl rfl rfl rfl rfl rfl rfl rfl rfl rfl rfl rfl rfl rfl rfl rfl rfl rfl ?_ ?_ | refine AOps.toStr Try.hX kn rfl rfl rfl rfl rfl rfl rfl rfl rfl rfl rfl (by first | exact rfl | exact byte1 _) rfl ?_ | refine AOps.buildArr Try.hX kn rfl rfl rfl rfl rfl rfl rfl rfl ?_ | refine AOps.indexArr Try.hX kn rfl rfl rfl rfl rfl rfl rfl rfl rfl rfl rfl rfl ?_ | refine AOps.runP1 Try.hX kn rfl rfl ?_ | (refine AOps.splitT rfl rfl rfl (by first | with_reducible assumption | (simp only [cond_true, cond_false, Bool.not_true, Bool.not_false, bne_self_eq_false, Int.reduceBNe, Int.reduceBEq]; with_reducible assumption)) (fun h => ?_) <;> (fail_if_success (cases h; done)) <;> rw [h]) | (refine AOps.splitF rfl rfl rfl (by first | with_reducible assumption | (simp only [cond_true, cond_false, Bool.not_true, Bool.not_false, bne_self_eq_false, Int.reduceBNe, Int.reduceBEq]; with_reducible assumption)) (fun h => ?_) <;> (fail_if_success (cases h; done)) <;> rw [h]) | (refine AOps.split rfl rfl rfl (fun h => ?_) (fun h => ?_) <;> (fail_if_success (cases h; done)) <;> rw [h]) | refine AOps.drawn (by kernel_rfl) ?_)
        refine AK.again (ih (i + 1, m') ⟨lt_of_get hx, hinv, hle.1, by have := hle.2; show m' ≤ 300; simp only at this; omega⟩ (by have := lt_of_get hx; show args.length - (i + 1) < args.length - i; omega))
          ⟨.inl (succ64 (by have := lt_of_get hx; omega)), .inl rfl, .inl rfl, .inl rfl, .inl rfl, .inl rfl, trivial⟩ ⟨rfl, trivial⟩ trivial rfl rfl rfl
    · have hc := tys_end he
      have hG : rGoods args (d - 1) (left - 1) = (true, m) := by rw [hinv, he, List.drop_length, rGoods_nil]
      rw [hG]
      clear ih hin hK
      by_cases hmt : T = 13 ∨ T = 15
      · obtain ⟨x0, hx0⟩ : ∃ x, args[0]? = some x := by
          have h1 : arity T ≥ 1 := by rcases hmt with rfl | rfl <;> decide +kernel
          have h2 : 0 < args.length := by simp only [ne_eq, Decidable.not_not] at c3; omega
          exact ⟨args[0], by simp [h2]⟩
        have hcq := rComparable_calls x0 (by have := tysSize_mem (List.mem_of_getElem? hx0); omega)
        simp only [if_pos hmt, headComp_calls hx0, if_true]
        obtain ⟨U, us⟩ := x0
        rcases hmt with rfl | rfl
        all_goals
          repeat' (first | refine AK.runP Try.hX Try.mixed 300 rfl ?_ | refine AK.condTe rfl (by first | with_reducible assumption | (simp only [cond_true, cond_false, Bool.not_true, Bool.not_false, bne_self_eq_false, Int.reduceBNe, Int.reduceBEq]; with_reducible assumption)) ?_ | refine AK.condFe rfl (by first | with_reducible assumption | (simp only [cond_true, cond_false, Bool.not_true, Bool.not_false, bne_self_eq_false, Int.reduceBNe, Int.reduceBEq]; with_reducible assumption)) ?_ | (refine AK.condS rfl (fun h => ?_) (fun h => ?_) <;> first | (cases h; done) | rw [h] | skip) | refine AK.retQ Try.hX hf rfl rfl ?_ | refine AK.retE Try.hX hf rfl rfl rfl rfl ?_ (by with_reducible rfl) | refine AK.retE Try.hX hf rfl rfl rfl rfl ?_ ?_ | refine AK.endE Try.hX hf rfl rfl rfl rfl ?_ (by with_reducible rfl) | refine AK.endE Try.hX hf rfl rfl rfl rfl ?_ ?_ | refine AK.region Try.mixed rfl ?_ | refine AOps.done ?_ | refine AOps.runS Try.hX kn rfl ?_ | refine AOps.index Try.hX rfl rfl rfl rfl rfl rfl rfl rfl rfl rfl (0) rfl (tys_at hx0) rfl ?_ | refine AOps.callq kn rfl rfl rfl rfl (hcq) ?_ | refine AOps.box kn rfl rfl rfl rfl rfl rfl ?_ | refine AOps.alloc Try.hX kn rfl rfl rfl rfl rfl rfl rfl ?_ | refine AOps.store Try.hX kn rfl rfl rfl rfl rfl rfl rfl rfl rfl rfl rfl ?_ | refine AOps.buildSlice Try.hX kn rfl rfl rfl rfl rfl rfl rfl rfl rfl rfl rfl rfl ?_ | refine AOps.append Try.hX kn rfl rfl rfl rfl rfl rfl rfl rfl rfl rfl rfl rfl rfl rfl rfl rfl rfl rfl rfl rfl rfl ?_ ?_ | refine AOps.toStr Try.hX kn rfl rfl rfl rfl rfl rfl rfl rfl rfl rfl rfl (by first | exact rfl | exact byte1 _) rfl ?_ | refine AOps.buildArr Try.hX kn rfl rfl rfl rfl rfl rfl rfl rfl ?_ | refine AOps.indexArr Try.hX kn rfl rfl rfl rfl rfl rfl rfl rfl rfl rfl rfl rfl ?_ | refine AOps.runP1 Try.hX kn rfl rfl ?_ | (refine AOps.splitT rfl rfl rfl (by first | with_reducible assumption | (simp only [cond_true, cond_false, Bool.not_true, Bool.not_false, bne_self_eq_false, Int.reduceBNe, Int.reduceBEq]; with_reducible assumption)) (fun h => ?_) <;> (fail_if_success (cases h; done)) <;> rw [h]) | (refine AOps.splitF rfl rfl rfl (by first | with_reducible assumption | (simp only [cond_true, cond_false, Bool.not_true, Bool.not_false, bne_self_eq_false, Int.reduceBNe, Int.reduceBEq]; with_reducible assumption)) (fun h => ?_) <;> (fail_if_success (cases h; done)) <;> rw [h]) | (refine AOps.split rfl rfl rfl (fun h => ?_) (fun h => ?_) <;> (fail_if_success (cases h; done)) <;> rw [h]) | refine AOps.drawn (by kernel_rfl) ?_)
          all_goals rfl
      · simp only [if_neg hmt, if_true]
        have g1 : (T != 13) = true := by simp only [not_or] at hmt; simpa using hmt.1
        have g2 : (T != 15) = true := by simp only [not_or] at hmt; simpa using hmt.2
        repeat' (first | refine AK.runP Try.hX Try.mixed 300 rfl ?_ | refine AK.condTe rfl (by first | with_reducible assumption | (simp only [cond_true, cond_false, Bool.not_true, Bool.not_false, bne_self_eq_false, Int.reduceBNe, Int.reduceBEq]; with_reducible assumption)) ?_ | refine AK.condFe rfl (by first | with_reducible assumption | (simp only [cond_true, cond_false, Bool.not_true, Bool.not_false, bne_self_eq_false, Int.reduceBNe, Int.reduceBEq]; with_reducible assumption)) ?_ | (refine AK.condS rfl (fun h => ?_) (fun h => ?_) <;> first | (cases h; done) | rw [h] | skip) | refine AK.retQ Try.hX hf rfl rfl ?_ | refine AK.retE Try.hX hf rfl rfl rfl rfl ?_ (by with_reducible rfl) | refine AK.retE Try.hX hf rfl rfl rfl rfl ?_ ?_ | refine AK.endE Try.hX hf rfl rfl rfl rfl ?_ (by with_reducible rfl) | refine AK.endE Try.hX hf rfl rfl rfl rfl ?_ ?_ | refine AK.region Try.mixed rfl ?_ | refine AOps.done ?_ | refine AOps.runS Try.hX kn rfl ?_ | refine AOps.box kn rfl rfl rfl rfl rfl rfl ?_ | refine AOps.alloc Try.hX kn rfl rfl rfl rfl rfl rfl rfl ?_ | refine AOps.store Try.hX kn rfl rfl rfl rfl rfl rfl rfl rfl rfl rfl rfl ?_ | refine AOps.buildSlice Try.hX kn rfl rfl rfl rfl rfl rfl rfl rfl rfl rfl rfl rfl ?_ | refine AOps.append Try.hX kn rfl rfl rfl rfl rfl rfl rfl rfl rfl rfl rfl rfl rfl rfl rfl rfl rfl rfl rfl rfl rfl ?_ ?_ | refine AOps.toStr Try.hX kn rfl rfl rfl rfl rfl rfl rfl rfl rfl rfl rfl (by first | exact rfl | exact byte1 _) rfl ?_ | refine AOps.buildArr Try.hX kn rfl rfl rfl rfl rfl rfl rfl rfl ?_ | refine AOps.indexArr Try.hX kn rfl rfl rfl rfl rfl rfl rfl rfl rfl rfl rfl rfl ?_ | refine AOps.runP1 Try.hX kn rfl rfl ?_ | (refine AOps.splitT rfl rfl rfl (by first | with_reducible assumption | (simp only [cond_true, cond_false, Bool.not_true, Bool.not_false, bne_self_eq_false, Int.reduceBNe, Int.reduceBEq]; with_reducible assumption)) (fun h => ?_) <;> (fail_if_success (cases h; done)) <;> rw [h]) | (refine AOps.splitF rfl rfl rfl (by first | with_reducible assumption | (simp only [cond_true, cond_false, Bool.not_true, Bool.not_false, bne_self_eq_false, Int.reduceBNe, Int.reduceBEq]; with_reducible assumption)) (fun h => ?_) <;> (fail_if_success (cases h; done)) <;> rw [h]) | (refine AOps.split rfl rfl rfl (fun h => ?_) (fun h => ?_) <;> (fail_if_success (cases h; done)) <;> rw [h]) | refine AOps.drawn (by kernel_rfl) ?_)
        all_goals first | rfl | (show (_ : CV) = _; simp_all; done)
termination_by t => SizeOf.sizeOf t
decreasing_by
  have := List.sizeOf_lt_of_mem hx
  simp at this ⊢; omega

theorem GoodType_calls (t : Ty) (ht : tySize t ≤ 1048577) : QCalls Try.prog Try.X 56 [encTy t] (.bool (tGood t)) := by
  have hq := goodType_calls t 24 300 ht (by omega) (by omega) (by omega) (by omega)
  rw [← rGood_top]
  obtain ⟨T, args⟩ := t
  refine QCalls.of Try.func56 rfl (fun args w => Try.call56 args w) (Nat.le_of_ble_eq_true rfl) [(0, .c (encTy (.mk T args)))] rfl fun β hβ => ?_; have hf := Try.func56
  repeat' (first | refine AK.runP Try.hX Try.mixed 300 rfl ?_ | refine AK.condTe rfl (by first | with_reducible assumption | (simp only [cond_true, cond_false, Bool.not_true, Bool.not_false, bne_self_eq_false, Int.reduceBNe, Int.reduceBEq]; with_reducible assumption)) ?_ | refine AK.condFe rfl (by first | with_reducible assumption | (simp only [cond_true, cond_false, Bool.not_true, Bool.not_false, bne_self_eq_false, Int.reduceBNe, Int.reduceBEq]; with_reducible assumption)) ?_ | (refine AK.condS rfl (fun h => ?_) (fun h => ?_) <;> first | (cases h; done) | rw [h] | skip) | refine AK.retQ Try.hX hf rfl rfl ?_ | refine AK.retE Try.hX hf rfl rfl rfl rfl ?_ (by with_reducible rfl) | refine AK.retE Try.hX hf rfl rfl rfl rfl ?_ ?_ | refine AK.endE Try.hX hf rfl rfl rfl rfl ?_ (by with_reducible rfl) | refine AK.endE Try.hX hf rfl rfl rfl rfl ?_ ?_ | refine AK.region Try.mixed rfl ?_ | refine AOps.done ?_ | refine AOps.runS Try.hX kn rfl ?_ | refine AOps.callq kn rfl rfl rfl rfl (hq) ?_ | refine AOps.box kn rfl rfl rfl rfl rfl rfl ?_ | refine AOps.alloc Try.hX kn rfl rfl rfl rfl rfl rfl rfl ?_ | refine AOps.store Try.hX kn rfl rfl rfl rfl rfl rfl rfl rfl rfl rfl rfl ?_ | refine AOps.buildSlice Try.hX kn rfl rfl rfl rfl rfl rfl rfl rfl rfl rfl rfl rfl ?_ | refine AOps.append Try.hX kn rfl rfl rfl rfl rfl rfl rfl rfl rfl rfl rfl rfl rfl rfl rfl rfl rfl rfl rfl rfl rfl ?_ ?_ | refine AOps.toStr Try.hX kn rfl rfl rfl rfl rfl rfl rfl rfl rfl rfl rfl (by first | exact rfl | exact byte1 _) rfl ?_ | refine AOps.buildArr Try.hX kn rfl rfl rfl rfl rfl rfl rfl rfl ?_ | refine AOps.indexArr Try.hX kn rfl rfl rfl rfl rfl rfl rfl rfl rfl rfl rfl rfl ?_ | refine AOps.runP1 Try.hX kn rfl rfl ?_ | (refine AOps.splitT rfl rfl rfl (by first | with_reducible assumption | (simp only [cond_true, cond_false, Bool.not_true, Bool.not_false, bne_self_eq_false, Int.reduceBNe, Int.reduceBEq]; with_reducible assumption)) (fun h => ?_) <;> (fail_if_success (cases h; done)) <;> rw [h]) | (refine AOps.splitF rfl rfl rfl (by first | with_reducible assumption | (simp only [cond_true, cond_false, Bool.not_true, Bool.not_false, bne_self_eq_false, Int.reduceBNe, Int.reduceBEq]; with_reducible assumption)) (fun h => ?_) <;> (fail_if_success (cases h; done)) <;> rw [h]) | (refine AOps.split rfl rfl rfl (fun h => ?_) (fun h => ?_) <;> (fail_if_success (cases h; done)) <;> rw [h]) | refine AOps.drawn (by kernel_rfl) ?_)
  rfl

theorem tNode_eq (t : Ty) : tNode t = if tGood t then (tyNd t, 0) else (nd0, 1) := rfl
theorem Node_calls (t : Ty) (ht : tySize t ≤ 1048577) : QCalls Try.prog Try.X 53 [encTy t] (.tup [encNd (tNode t).1, .int .i64 (tNode t).2]) := by
  have hq := kindnode_calls t ht
  have hg := Good_calls t ht
  rw [tNode_eq]
  generalize hn : tyNd t = n at hq
  obtain ⟨T, args⟩ := t
  obtain ⟨y1, y2, y3, y4, y5⟩ := n
  cases hb : tGood (.mk T args)
  all_goals
    rw [hb] at hg
    refine QCalls.of Try.func53 rfl (fun args w => Try.call53 args w) (Nat.le_of_ble_eq_true rfl) [(0, .c (encTy (.mk T args)))] rfl fun β hβ => ?_; have hf := Try.func53
    repeat' (first | refine AK.runP Try.hX Try.mixed 300 rfl ?_ | refine AK.condTe rfl (by first | with_reducible assumption | (simp only [cond_true, cond_false, Bool.not_true, Bool.not_false, bne_self_eq_false, Int.reduceBNe, Int.reduceBEq]; with_reducible assumption)) ?_ | refine AK.condFe rfl (by first | with_reducible assumption | (simp only [cond_true, cond_false, Bool.not_true, Bool.not_false, bne_self_eq_false, Int.reduceBNe, Int.reduceBEq]; with_reducible assumption)) ?_ | (refine AK.condS rfl (fun h => ?_) (fun h => ?_) <;> first | (cases h; done) | rw [h] | skip) | refine AK.retQ Try.hX hf rfl rfl ?_ | refine AK.retE Try.hX hf rfl rfl rfl rfl ?_ (by with_reducible rfl) | refine AK.retE Try.hX hf rfl rfl rfl rfl ?_ ?_ | refine AK.endE Try.hX hf rfl rfl rfl rfl ?_ (by with_reducible rfl) | refine AK.endE Try.hX hf rfl rfl rfl rfl ?_ ?_ | refine AK.region Try.mixed rfl ?_ | refine AOps.done ?_ | refine AOps.runS Try.hX kn rfl ?_ | refine AOps.callq kn rfl rfl rfl rfl (hg) ?_ | refine AOps.callq kn rfl rfl rfl rfl (hq) ?_ | refine AOps.box kn rfl rfl rfl rfl rfl rfl ?_ | refine AOps.alloc Try.hX kn rfl rfl rfl rfl rfl rfl rfl ?_ | refine AOps.store Try.hX kn rfl rfl rfl rfl rfl rfl rfl rfl rfl rfl rfl ?_ | refine AOps.buildSlice Try.hX kn rfl rfl rfl rfl rfl rfl rfl rfl rfl rfl rfl rfl ?_ | refine AOps.append Try.hX kn rfl rfl rfl rfl rfl rfl rfl rfl rfl rfl rfl rfl rfl rfl rfl rfl rfl rfl rfl rfl rfl ?_ ?_ | refine AOps.toStr Try.hX kn rfl rfl rfl rfl rfl rfl rfl rfl rfl rfl rfl (by first | exact rfl | exact byte1 _) rfl ?_ | refine AOps.buildArr Try.hX kn rfl rfl rfl rfl rfl rfl rfl rfl ?_ | refine AOps.indexArr Try.hX kn rfl rfl rfl rfl rfl rfl rfl rfl rfl rfl rfl rfl ?_ | refine AOps.runP1 Try.hX kn rfl rfl ?_ | (refine AOps.splitT rfl rfl rfl (by first | with_reducible assumption | (simp only [cond_true, cond_false, Bool.not_true, Bool.not_false, bne_self_eq_false, Int.reduceBNe, Int.reduceBEq]; with_reducible assumption)) (fun h => ?_) <;> (fail_if_success (cases h; done)) <;> rw [h]) | (refine AOps.splitF rfl rfl rfl (by first | with_reducible assumption | (simp only [cond_true, cond_false, Bool.not_true, Bool.not_false, bne_self_eq_false, Int.reduceBNe, Int.reduceBEq]; with_reducible assumption)) (fun h => ?_) <;> (fail_if_success (cases h; done)) <;> rw [h]) | (refine AOps.split rfl rfl rfl (fun h => ?_) (fun h => ?_) <;> (fail_if_success (cases h; done)) <;> rw [h]) | refine AOps.drawn (by kernel_rfl) ?_)
    all_goals rfl
theorem TypeNode_calls (t : Ty) (ht : tySize t ≤ 1048577) : QCalls Try.prog Try.X 54 [encTy t] (.tup [encNd (tNode t).1, .int .i64 (tNode t).2]) := by
  have hq := nodeOf_calls t ht
  have hg := GoodType_calls t ht
  rw [tNode_eq]
  generalize hn : tyNd t = n at hq
  obtain ⟨T, args⟩ := t
  obtain ⟨y1, y2, y3, y4, y5⟩ := n
  cases hb : tGood (.mk T args)
  all_goals
    rw [hb] at hg
    refine QCalls.of Try.func54 rfl (fun args w => Try.call54 args w) (Nat.le_of_ble_eq_true rfl) [(0, .c (encTy (.mk T args)))] rfl fun β hβ => ?_; have hf := Try.func54
    repeat' (first | refine AK.runP Try.hX Try.mixed 300 rfl ?_ | refine AK.condTe rfl (by first | with_reducible assumption | (simp only [cond_true, cond_false, Bool.not_true, Bool.not_false, bne_self_eq_false, Int.reduceBNe, Int.reduceBEq]; with_reducible assumption)) ?_ | refine AK.condFe rfl (by first | with_reducible assumption | (simp only [cond_true, cond_false, Bool.not_true, Bool.not_false, bne_self_eq_false, Int.reduceBNe, Int.reduceBEq]; with_reducible assumption)) ?_ | (refine AK.condS rfl (fun h => ?_) (fun h => ?_) <;> first | (cases h; done) | rw [h] | skip) | refine AK.retQ Try.hX hf rfl rfl ?_ | refine AK.retE Try.hX hf rfl rfl rfl rfl ?_ (by with_reducible rfl) | refine AK.retE Try.hX hf rfl rfl rfl rfl ?_ ?_ | refine AK.endE Try.hX hf rfl rfl rfl rfl ?_ (by with_reducible rfl) | refine AK.endE Try.hX hf rfl rfl rfl rfl ?_ ?_ | refine AK.region Try.mixed rfl ?_ | refine AOps.done ?_ | refine AOps.runS Try.hX kn rfl ?_ | refine AOps.callq kn rfl rfl rfl rfl (hg) ?_ | refine AOps.callq kn rfl rfl rfl rfl (hq) ?_ | refine AOps.box kn rfl rfl rfl rfl rfl rfl ?_ | refine AOps.alloc Try.hX kn rfl rfl rfl rfl rfl rfl rfl ?_ | refine AOps.store Try.hX kn rfl rfl rfl rfl rfl rfl rfl rfl rfl rfl rfl ?_ | refine AOps.buildSlice Try.hX kn rfl rfl rfl rfl rfl rfl rfl rfl rfl rfl rfl rfl ?_ | refine AOps.append Try.hX kn rfl rfl rfl rfl rfl rfl rfl rfl rfl rfl rfl rfl rfl rfl rfl rfl rfl rfl rfl rfl rfl ?_ ?_ | refine AOps.toStr Try.hX kn rfl rfl rfl rfl rfl rfl rfl rfl rfl rfl rfl (by first | exact rfl | exact byte1 _) rfl ?_ | refine AOps.buildArr Try.hX kn rfl rfl rfl rfl rfl rfl rfl rfl ?_ | refine AOps.indexArr Try.hX kn rfl rfl rfl rfl rfl rfl rfl rfl rfl rfl rfl rfl ?_ | refine AOps.runP1 Try.hX kn rfl rfl ?_ | (refine AOps.splitT rfl rfl rfl (by first | with_reducible assumption | (simp only [cond_true, cond_false, Bool.not_true, Bool.not_false, bne_self_eq_false, Int.reduceBNe, Int.reduceBEq]; with_reducible assumption)) (fun h => ?_) <;> (fail_if_success (cases h; done)) <;> rw [h]) | (refine AOps.splitF rfl rfl rfl (by first | with_reducible assumption | (simp only [cond_true, cond_false, Bool.not_true, Bool.not_false, bne_self_eq_false, Int.reduceBNe, Int.reduceBEq]; with_reducible assumption)) (fun h => ?_) <;> (fail_if_success (cases h; done)) <;> rw [h]) | (refine AOps.split rfl rfl rfl (fun h => ?_) (fun h => ?_) <;> (fail_if_success (cases h; done)) <;> rw [h]) | refine AOps.drawn (by kernel_rfl) ?_)
    all_goals rfl

set_option maxHeartbeats 0 in
theorem typeOf_calls : ∀ (n : Nd) (d left : Int), ndSize n ≤ 1048577 → d ≤ 1000 → -1099511627776 + ndSize n ≤ d → -1099511627776 + ndSize n ≤ left → left ≤ 300 →
    ECalls Try.prog Try.X 86 [.v (.c (encNd n)), .v (.c (.int .i64 d)), .box [.c (.int .i64 left)]] [.c (encTy (rType n d left).1)] [(2, [.c (.int .i64 (rType n d left).2)])]
  | .mk kind nn p s args => by
    intro d left ht hd0 hd hn0 hn
    simp only [ndSize] at ht hd hn0
    have hl1 := ndsSize_len args
    have hin : ∀ x ∈ args, ∀ m : Int, -1099511627776 + ndSize x ≤ m → m ≤ 300 → ECalls Try.prog Try.X 86 [.v (.c (encNd x)), .v (.c (.int .i64 (IntKind.i64.wrap (d - 1)))), .box [.c (.int .i64 m)]] [.c (encTy (rType x (d - 1) m).1)] [(2, [.c (.int .i64 (rType x (d - 1) m).2)])] := by
      intro x hx m h0 h1
      have := ndsSize_mem hx
      rw [w64 (by omega) (by omega)]
      exact typeOf_calls x (d - 1) m (by omega) (by omega) (by omega) h0 h1
    have e1 : IntKind.i64.wrap (left - 1) = left - 1 := w64 (by omega) (by omega)
    refine ECalls.ofL Try.func86 rfl (fun args w => Try.call86 args w) (Nat.le_of_ble_eq_true rfl) [(0, .c (encNd (.mk kind nn p s args))), (1, .c (.int .i64 d)), (2, .ptr 1002000 0)] [(1002000, [.c (.int .i64 left)])] [] [1002000] rfl rfl fun β => ?_; have hf := Try.func86
    repeat' (first | refine AK.runP Try.hX Try.mixed 300 rfl ?_ | refine AK.condTe rfl (by first | with_reducible assumption | (simp only [cond_true, cond_false, Bool.not_true, Bool.not_false, bne_self_eq_false, Int.reduceBNe, Int.reduceBEq]; with_reducible assumption)) ?_ | refine AK.condFe rfl (by first | with_reducible assumption | (simp only [cond_true, cond_false, Bool.not_true, Bool.not_false, bne_self_eq_false, Int.reduceBNe, Int.reduceBEq]; with_reducible assumption)) ?_ | (refine AK.condS rfl (fun h => ?_) (fun h => ?_) <;> first | (cases h; done) | rw [h] | skip) | refine AK.retQ Try.hX hf rfl rfl ?_ | refine AK.retE Try.hX hf rfl rfl rfl rfl ?_ (by with_reducible rfl) | refine AK.retE Try.hX hf rfl rfl rfl rfl ?_ ?_ | refine AK.endE Try.hX hf rfl rfl rfl rfl ?_ (by with_reducible rfl) | refine AK.endE Try.hX hf rfl rfl rfl rfl ?_ ?_ | refine AK.region Try.mixed rfl ?_ | refine AOps.done ?_ | refine AOps.runS Try.hX kn rfl ?_ | refine AOps.box kn rfl rfl rfl rfl rfl rfl ?_ | refine AOps.alloc Try.hX kn rfl rfl rfl rfl rfl rfl rfl ?_ | refine AOps.store Try.hX kn rfl rfl rfl rfl rfl rfl rfl rfl rfl rfl rfl ?_ | refine AOps.buildSlice Try.hX kn rfl rfl rfl rfl rfl rfl rfl rfl rfl rfl rfl rfl ?_ | refine AOps.append Try.hX kn rfl rfl rfl rfl rfl rfl rfl rfl rfl rfl rfl rfl rfl rfl rfl rfl rfl rfl rfl rfl rfl ?_ ?_ | refine AOps.toStr Try.hX kn rfl rfl rfl rfl rfl rfl rfl rfl rfl rfl rfl (by first | exact rfl | exact byte1 _) rfl ?_ | refine AOps.buildArr Try.hX kn rfl rfl rfl rfl rfl rfl rfl rfl ?_ | refine AOps.indexArr Try.hX kn rfl rfl rfl rfl rfl rfl rfl rfl rfl rfl rfl rfl ?_ | refine AOps.runP1 Try.hX kn rfl rfl ?_ | (refine AOps.splitT rfl rfl rfl (by first | with_reducible assumption | (simp only [cond_true, cond_false, Bool.not_true, Bool.not_false, bne_self_eq_false, Int.reduceBNe, Int.reduceBEq]; with_reducible assumption)) (fun h => ?_) <;> (fail_if_success (cases h; done)) <;> rw [h]) | (refine AOps.splitF rfl rfl rfl (by first | with_reducible assumption | (simp only [cond_true, cond_false, Bool.not_true, Bool.not_false, bne_self_eq_false, Int.reduceBNe, Int.reduceBEq]; with_reducible assumption)) (fun h => ?_) <;> (fail_if_success (cases h; done)) <;> rw [h]) | (refine AOps.split rfl rfl rfl (fun h => ?_) (fun h => ?_) <;> (fail_if_success (cases h; done)) <;> rw [h]) | refine AOps.drawn (by kernel_rfl) ?_)
    rotate_left 10
    · refine AK.ren [(6, 6), (7, 7), (1002000, 1002000)] [(7000, (0, none))] (env' := [(45, .c (.int .i64 (0 : Nat))), (44, .c (.int .i64 (encNds args).length)), (43, .c (.sl 5 (encNds args))), (1, .c (.int .i64 d)), (2, .ptr 1002000 0), (6, .ptr 6 0), (7, .ptr 7 0)])
        (bs' := [(6, [.c (.int .i64 0), .own .exact 2 []]), (7, [.c (.int .i64 p), .own (.tok 7000 0) 2 []]), (1002000, [.c (.int .i64 (left - 1))])]) (ts' := [(7000, 0)]) (us' := [6, 7, 1002000, 7000])
        ⟨⟨_, rfl, .inl rfl⟩, ⟨_, rfl, .inl rfl⟩, ⟨_, rfl, .inl rfl⟩, ⟨_, rfl, .inl rfl⟩, ⟨_, rfl, ⟨_, rfl, rfl⟩⟩, ⟨_, rfl, ⟨_, rfl, rfl⟩⟩, ⟨_, rfl, ⟨_, rfl, rfl⟩⟩, trivial⟩ ⟨⟨_, _, rfl, rfl, ⟨_, _, rfl, .inl rfl, ⟨_, _, rfl, rfl, rfl⟩⟩⟩, ⟨_, _, rfl, rfl, ⟨_, _, rfl, .inl rfl, ⟨_, _, rfl, ⟨_, rfl, .inl ⟨rfl, _, rfl, .inr rfl⟩⟩, rfl⟩⟩⟩, ⟨_, _, rfl, rfl, ⟨_, _, rfl, .inl (congrArg (fun k => AV.c (.int .i64 k)) e1), rfl⟩⟩, trivial⟩ rfl ?_
      have hk : ¬ (kind ≠ 2 ∨ nn ≠ 0 ∨ s ≠ [] ∨ d = 0 ∨ left - 1 < 0) := by
        clear hin hf
        simp_all
      have hK := rType_at kind nn p s args d left hk
      refine AK.loopE (α := Nat × List Ty × Int) (fun z => z.1 ≤ args.length ∧ z.1 = z.2.1.length ∧ rTypes args (d - 1) (left - 1) = (z.2.1 ++ (rTypes (args.drop z.1) (d - 1) z.2.2).1, (rTypes (args.drop z.1) (d - 1) z.2.2).2) ∧ -1099511627776 + ndsSize (args.drop z.1) ≤ z.2.2 ∧ z.2.2 ≤ 300) (fun z => args.length - z.1)
        (fun z => [(45, .c (.int .i64 z.1)), (44, .c (.int .i64 (encNds args).length)), (43, .c (.sl 5 (encNds args))), (1, .c (.int .i64 d)), (2, .ptr 1002000 0), (6, .ptr 6 0), (7, .ptr 7 0)])
        (fun z => [(6, [.c (.int .i64 0), .own .exact 2 []]), (7, [.c (.int .i64 p), .own (.tok 7000 0) 2 (encTys z.2.1)]), (1002000, [.c (.int .i64 z.2.2)])]) (fun _ => [(7000, 0)]) [6, 7, 1002000, 7000] (0, [], left - 1)
        ⟨by omega, rfl, by simp, by show -1099511627776 + (ndsSize args : Int) ≤ left - 1; omega, by show left - 1 ≤ 300; omega⟩ ⟨.inl rfl, .inl rfl, .inl rfl, .inl rfl, .inl rfl, .inl rfl, .inl rfl, trivial⟩ ⟨rfl, rfl, rfl, trivial⟩ ⟨rfl, trivial⟩ rfl rfl rfl ?_
      rintro ⟨i, acc, m⟩ ⟨hi, hia, hinv, hm0, hm1⟩ ih
      simp only at hi hia hinv hm0 hm1
      rcases get_or args i hi with ⟨x, hx, hmem⟩ | he
      · have hc := nds_lt hx
        rw [drop_at hx] at hm0 hinv
        simp only [ndsSize] at hm0
        have hq := hin x hmem m (by omega) hm1
        have hle := rType_le x (d - 1) m
        rw [rTypes_cons] at hinv
        have h2 := lt_of_get hx
        rcases hr : rType x (d - 1) m with ⟨y, m'⟩
        rw [hr] at hq hle hinv
        obtain ⟨U, us⟩ := y
        obtain ⟨xk, xn, xp, xs, xa⟩ := x
        repeat' (first | refine AK.runP Try.hX Try.mixed 300 rfl ?_ | refine AK.condTe rfl (by first | with_reducible assumption | (simp only [cond_true, cond_false, Bool.not_true, Bool.not_false, bne_self_eq_false, Int.reduceBNe, Int.reduceBEq]; with_reducible assumption)) ?_ | refine AK.condFe rfl (by first | with_reducible assumption | (simp only [cond_true, cond_false, Bool.not_true, Bool.not_false, bne_self_eq_false, Int.reduceBNe, Int.reduceBEq]; with_reducible assumption)) ?_ | (refine AK.condS rfl (fun h => ?_) (fun h => ?_) <;> first | (cases h; done) | rw [h] | skip) | refine AK.retQ Try.hX hf rfl rfl ?_ | refine AK.retE Try.hX hf rfl rfl rfl rfl ?_ (by with_reducible rfl) | refine AK.retE Try.hX hf rfl rfl rfl rfl ?_ ?_ | refine AK.endE Try.hX hf rfl rfl rfl rfl ?_ (by with_reducible rfl) | refine AK.endE Try.hX hf rfl rfl rfl rfl ?_ ?_ | refine AK.region Try.mixed rfl ?_ | refine AOps.done ?_ | refine AOps.runS Try.hX kn rfl ?_ | refine AOps.index Try.hX rfl rfl rfl rfl rfl rfl rfl rfl rfl rfl (i) rfl (nds_at hx) rfl ?_ | refine AOps.calle kn rfl rfl (hq) rfl (by (repeat' (first | exact rfl | exact trivial | refine ⟨_, _, rfl, ?_, ?_⟩ | refine ⟨_, _, _, rfl, rfl, ?_, ?_⟩)); done) rfl rfl rfl rfl rfl rfl rfl rfl rfl rfl rfl rfl rfl rfl ?_ | refine AOps.box kn rfl rfl rfl rfl rfl rfl ?_ | refine AOps.alloc Try.hX kn rfl rfl rfl rfl rfl rfl rfl ?_ | refine AOps.store Try.hX kn rfl rfl rfl rfl rfl rfl rfl rfl rfl rfl rfl ?_ | refine AOps.buildSlice Try.hX kn rfl rfl rfl rfl rfl rfl rfl rfl rfl rfl rfl rfl ?_ | refine AOps.append Try.hX kn rfl rfl rfl rfl rfl rfl rfl rfl rfl rfl rfl rfl rfl rfl rfl rfl rfl rfl rfl rfl rfl ?_ ?_ | refine AOps.toStr Try.hX kn rfl rfl rfl rfl rfl rfl rfl rfl rfl rfl rfl (by first | exact rfl | exact byte1 _) rfl ?_ | refine AOps.buildArr Try.hX kn rfl rfl rfl rfl rfl rfl rfl rfl ?_ | refine AOps.indexArr Try.hX kn rfl rfl rfl rfl rfl rfl rfl rfl rfl rfl rfl rfl ?_ | refine AOps.runP1 Try.hX kn rfl rfl ?_ | (refine AOps.splitT rfl rfl rfl (by first | with_reducible assumption | (simp only [cond_true, cond_false, Bool.not_true, Bool.not_false, bne_self_eq_false, Int.reduceBNe, Int.reduceBEq]; with_reducible assumption)) (fun h => ?_) <;> (fail_if_success (cases h; done)) <;> rw [h]) | (refine AOps.splitF rfl rfl rfl (by first | with_reducible assumption | (simp only [cond_true, cond_false, Bool.not_true, Bool.not_false, bne_self_eq_false, Int.reduceBNe, Int.reduceBEq]; with_reducible assumption)) (fun h => ?_) <;> (fail_if_success (cases h; done)) <;> rw [h]) | (refine AOps.split rfl rfl rfl (fun h => ?_) (fun h => ?_) <;> (fail_if_success (cases h; done)) <;> rw [h]) | refine AOps.drawn (by kernel_rfl) ?_)
        · have h1 := encTys_length acc
          simp only [List.length_cons, List.length_nil]
          omega
        · have hap : encTys acc ++ [encTy (.mk U us)] = encTys (acc ++ [Ty.mk U us]) := (encTys_append acc [.mk U us]).symm
          refine AK.ren [(6, 6), (7, 7), (1002000, 1002000)] [(7000, (0, some 7000))] (env' := [(45, .c (.int .i64 ((i + 1 : Nat) : Int))), (44, .c (.int .i64 (encNds args).length)), (43, .c (.sl 5 (encNds args))), (1, .c (.int .i64 d)), (2, .ptr 1002000 0), (6, .ptr 6 0), (7, .ptr 7 0)])
            (bs' := [(6, [.c (.int .i64 0), .own .exact 2 []]), (7, [.c (.int .i64 p), .own (.tok 7000 0) 2 (encTys (acc ++ [Ty.mk U us]))]), (1002000, [.c (.int .i64 m')])]) (ts' := [(7000, 0)]) (us' := [6, 7, 1002000, 7000])
            ⟨⟨_, rfl, .inl (succ64' (i := i) (by omega))⟩, ⟨_, rfl, .inl rfl⟩, ⟨_, rfl, .inl rfl⟩, ⟨_, rfl, .inl rfl⟩, ⟨_, rfl, ⟨_, rfl, rfl⟩⟩, ⟨_, rfl, ⟨_, rfl, rfl⟩⟩, ⟨_, rfl, ⟨_, rfl, rfl⟩⟩, trivial⟩ ⟨⟨_, _, rfl, rfl, ⟨_, _, rfl, .inl rfl, ⟨_, _, rfl, rfl, rfl⟩⟩⟩, ⟨_, _, rfl, rfl, ⟨_, _, rfl, .inl rfl, ⟨_, _, rfl, ⟨_, rfl, .inr ⟨_, _, rfl, rfl, congrArg (AV.own (.tok 7000 1) 2) hap⟩⟩, rfl⟩⟩⟩, ⟨_, _, rfl, rfl, ⟨_, _, rfl, .inl rfl, rfl⟩⟩, trivial⟩ rfl ?_
          refine ih (i + 1, acc ++ [Ty.mk U us], m') ⟨h2, by simp [hia], ?_, ?_, ?_⟩ (by show args.length - (i + 1) < args.length - i; omega)
          · show rTypes args (d - 1) (left - 1) = _
            rw [hinv]; simp
          · have := hle.1; show -1099511627776 + (ndsSize (List.drop (i + 1) args) : Int) ≤ m'; simp only at this; omega
          · have := hle.2; show m' ≤ 300; simp only at this; omega
      · have hc := nds_end he
        have hG : rTypes args (d - 1) (left - 1) = (acc, m) := by rw [hinv, he, List.drop_length, rTypes_nil]; simp
        rw [hG] at hK
        clear ih hin
        repeat' (first | refine AK.runP Try.hX Try.mixed 300 rfl ?_ | refine AK.condTe rfl (by first | with_reducible assumption | (simp only [cond_true, cond_false, Bool.not_true, Bool.not_false, bne_self_eq_false, Int.reduceBNe, Int.reduceBEq]; with_reducible assumption)) ?_ | refine AK.condFe rfl (by first | with_reducible assumption | (simp only [cond_true, cond_false, Bool.not_true, Bool.not_false, bne_self_eq_false, Int.reduceBNe, Int.reduceBEq]; with_reducible assumption)) ?_ | (refine AK.condS rfl (fun h => ?_) (fun h => ?_) <;> first | (cases h; done) | rw [h] | skip) | refine AK.retQ Try.hX hf rfl rfl ?_ | refine AK.retE Try.hX hf rfl rfl rfl rfl ?_ (by with_reducible rfl) | refine AK.retE Try.hX hf rfl rfl rfl rfl ?_ ?_ | refine AK.endE Try.hX hf rfl rfl rfl rfl ?_ (by with_reducible rfl) | refine AK.endE Try.hX hf rfl rfl rfl rfl ?_ ?_ | refine AK.region Try.mixed rfl ?_ | refine AOps.done ?_ | refine AOps.runS Try.hX kn rfl ?_ | refine AOps.box kn rfl rfl rfl rfl rfl rfl ?_ | refine AOps.alloc Try.hX kn rfl rfl rfl rfl rfl rfl rfl ?_ | refine AOps.store Try.hX kn rfl rfl rfl rfl rfl rfl rfl rfl rfl rfl rfl ?_ | refine AOps.buildSlice Try.hX kn rfl rfl rfl rfl rfl rfl rfl rfl rfl rfl rfl rfl ?_ | refine AOps.append Try.hX kn rfl rfl rfl rfl rfl rfl rfl rfl rfl rfl rfl rfl rfl rfl rfl rfl rfl rfl rfl rfl rfl ?_ ?_ | refine AOps.toStr Try.hX kn rfl rfl rfl rfl rfl rfl rfl rfl rfl rfl rfl (by first | exact rfl | exact byte1 _) rfl ?_ | refine AOps.buildArr Try.hX kn rfl rfl rfl rfl rfl rfl rfl rfl ?_ | refine AOps.indexArr Try.hX kn rfl rfl rfl rfl rfl rfl rfl rfl rfl rfl rfl rfl ?_ | refine AOps.runP1 Try.hX kn rfl rfl ?_ | (refine AOps.splitT rfl rfl rfl (by first | with_reducible assumption | (simp only [cond_true, cond_false, Bool.not_true, Bool.not_false, bne_self_eq_false, Int.reduceBNe, Int.reduceBEq]; with_reducible assumption)) (fun h => ?_) <;> (fail_if_success (cases h; done)) <;> rw [h]) | (refine AOps.splitF rfl rfl rfl (by first | with_reducible assumption | (simp only [cond_true, cond_false, Bool.not_true, Bool.not_false, bne_self_eq_false, Int.reduceBNe, Int.reduceBEq]; with_reducible assumption)) (fun h => ?_) <;> (fail_if_success (cases h; done)) <;> rw [h]) | (refine AOps.split rfl rfl rfl (fun h => ?_) (fun h => ?_) <;> (fail_if_success (cases h; done)) <;> rw [h]) | refine AOps.drawn (by kernel_rfl) ?_)
        · rw [hK]; rfl
        · rw [hK]
    all_goals
      have hno : kind ≠ 2 ∨ nn ≠ 0 ∨ s ≠ [] ∨ d = 0 ∨ left - 1 < 0 := by
        clear hin hf
        first
        | (left; simp_all; done)
        | (right; left; simp_all; done)
        | (right; right; left; simp_all; done)
        | (right; right; right; left; simp_all; done)
        | (right; right; right; right; simp_all; done)
      first
      | (show (_ : List LV) = _; rw [rType_no kind nn p s args d left hno]; rfl)
      | (show (_ : List (Nat × List LV)) = _; rw [rType_no kind nn p s args d left hno, e1])
termination_by t => SizeOf.sizeOf t
decreasing_by
  have := List.sizeOf_lt_of_mem hx
  simp at this ⊢; omega

theorem ParseType_calls (n : Nd) (hn : ndSize n ≤ 1048577) : QCalls Try.prog Try.X 29 [encNd n] (.tup [encTy (tParse n).1, .int .i64 (tParse n).2]) := by
  have hq := typeOf_calls n 24 300 hn (by omega) (by omega) (by omega) (by omega)
  have hsz := rType_size n 24 300
  have hg := GoodType_calls (rType n 24 300).1 (by omega)
  rw [← rParse_eq]
  unfold rParse
  rw [rGood_top]
  rcases hr : rType n 24 300 with ⟨⟨U, us⟩, m⟩
  rw [hr] at hq hg
  simp only at hq hg ⊢
  obtain ⟨k, a, p, s, l⟩ := n
  cases hb : tGood (.mk U us)
  all_goals
    rw [hb] at hg
    refine QCalls.of Try.func29 rfl (fun args w => Try.call29 args w) (Nat.le_of_ble_eq_true rfl) [(0, .c (encNd (.mk k a p s l)))] rfl fun β hβ => ?_; have hf := Try.func29
    repeat' (first | refine AK.runP Try.hX Try.mixed 300 rfl ?_ | refine AK.condTe rfl (by first | with_reducible assumption | (simp only [cond_true, cond_false, Bool.not_true, Bool.not_false, bne_self_eq_false, Int.reduceBNe, Int.reduceBEq]; with_reducible assumption)) ?_ | refine AK.condFe rfl (by first | with_reducible assumption | (simp only [cond_true, cond_false, Bool.not_true, Bool.not_false, bne_self_eq_false, Int.reduceBNe, Int.reduceBEq]; with_reducible assumption)) ?_ | (refine AK.condS rfl (fun h => ?_) (fun h => ?_) <;> first | (cases h; done) | rw [h] | skip) | refine AK.retQ Try.hX hf rfl rfl ?_ | refine AK.retE Try.hX hf rfl rfl rfl rfl ?_ (by with_reducible rfl) | refine AK.retE Try.hX hf rfl rfl rfl rfl ?_ ?_ | refine AK.endE Try.hX hf rfl rfl rfl rfl ?_ (by with_reducible rfl) | refine AK.endE Try.hX hf rfl rfl rfl rfl ?_ ?_ | refine AK.region Try.mixed rfl ?_ | refine AOps.done ?_ | refine AOps.runS Try.hX kn rfl ?_ | refine AOps.calle kn rfl rfl (hq) rfl (by (repeat' (first | exact rfl | exact trivial | refine ⟨_, _, rfl, ?_, ?_⟩ | refine ⟨_, _, _, rfl, rfl, ?_, ?_⟩)); done) rfl rfl rfl rfl rfl rfl rfl rfl rfl rfl rfl rfl rfl rfl ?_ | refine AOps.callq kn rfl rfl rfl rfl (hg) ?_ | refine AOps.box kn rfl rfl rfl rfl rfl rfl ?_ | refine AOps.alloc Try.hX kn rfl rfl rfl rfl rfl rfl rfl ?_ | refine AOps.store Try.hX kn rfl rfl rfl rfl rfl rfl rfl rfl rfl rfl rfl ?_ | refine AOps.buildSlice Try.hX kn rfl rfl rfl rfl rfl rfl rfl rfl rfl rfl rfl rfl ?_ | refine AOps.append Try.hX kn rfl rfl rfl rfl rfl rfl rfl rfl rfl rfl rfl rfl rfl rfl rfl rfl rfl rfl rfl rfl rfl ?_ ?_ | refine AOps.toStr Try.hX kn rfl rfl rfl rfl rfl rfl rfl rfl rfl rfl rfl (by first | exact rfl | exact byte1 _) rfl ?_ | refine AOps.buildArr Try.hX kn rfl rfl rfl rfl rfl rfl rfl rfl ?_ | refine AOps.indexArr Try.hX kn rfl rfl rfl rfl rfl rfl rfl rfl rfl rfl rfl rfl ?_ | refine AOps.runP1 Try.hX kn rfl rfl ?_ | (refine AOps.splitT rfl rfl rfl (by first | with_reducible assumption | (simp only [cond_true, cond_false, Bool.not_true, Bool.not_false, bne_self_eq_false, Int.reduceBNe, Int.reduceBEq]; with_reducible assumption)) (fun h => ?_) <;> (fail_if_success (cases h; done)) <;> rw [h]) | (refine AOps.splitF rfl rfl rfl (by first | with_reducible assumption | (simp only [cond_true, cond_false, Bool.not_true, Bool.not_false, bne_self_eq_false, Int.reduceBNe, Int.reduceBEq]; with_reducible assumption)) (fun h => ?_) <;> (fail_if_success (cases h; done)) <;> rw [h]) | (refine AOps.split rfl rfl rfl (fun h => ?_) (fun h => ?_) <;> (fail_if_success (cases h; done)) <;> rw [h]) | refine AOps.drawn (by kernel_rfl) ?_)
    all_goals rfl
end Go.Proofs
