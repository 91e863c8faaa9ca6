/- What slices.EqualFunc answers, and Same of kind, SameType and SameNode of touchstoneref, sameNode of touchstonekeep and of value. -/
-- WIDE
-- OLDASM
import Derived.Test.YtcinhjfonmjneaaKind7
set_option linter.unusedVariables false
set_option linter.unusedSimpArgs false
namespace Go.Proofs
open Go.Abs
attribute [local irreducible] AK AOps QCalls ECalls

/-- Two rows are alike, one by one. -/
def eqBy {α : Type} (q : α → α → Bool) : List α → List α → Bool
  | [], [] => true
  | x :: l, y :: r => q x y && eqBy q l r
  | _, _ => false
theorem eqBy_len {α : Type} (q : α → α → Bool) : ∀ (l r : List α), l.length ≠ r.length → eqBy q l r = false
  | [], [], h => by simp at h
  | [], _ :: _, _ => rfl
  | _ :: _, [], _ => rfl
  | x :: l, y :: r, h => by simp [eqBy, eqBy_len q l r (by simpa using h)]
theorem eqBy_tys : ∀ (l r : List Ty), eqBy tySame l r = tysSame l r
  | [], [] => rfl
  | [], _ :: _ => rfl
  | _ :: _, [] => rfl
  | x :: l, y :: r => by simp [eqBy, tysSame, eqBy_tys l r]
theorem eqBy_end {α : Type} (q : α → α → Bool) {l r : List α} {i : Nat} (h : l.length = r.length) (hi : i = l.length) : eqBy q (l.drop i) (r.drop i) = true := by
  subst hi; rw [List.drop_length, h, List.drop_length]; rfl

set_option maxHeartbeats 0 in
theorem eqFuncTy_calls (l r : List Ty) (q : Ty → Ty → Bool) (f : FuncId) (caps : List CV) (hp : ∀ x ∈ l, ∀ y ∈ r, QCalls Try.prog Try.X f (encTy x :: encTy y :: caps) (.bool (q x y))) (hlen : l.length ≤ 1099511627776) :
    QCalls Try.prog Try.X 105 [.sl 2 (encTys l), .sl 2 (encTys r), .clo f caps] (.bool (eqBy q l r)) := by
  by_cases hl : l.length = r.length
  · have hne : ((((encTys l).length : Nat) : Int) != (((encTys r).length : Nat) : Int)) = false := by rw [encTys_length, encTys_length, hl]; simp
    refine QCalls.of Try.func105 rfl (fun args w => Try.call105 args w) (Nat.le_of_ble_eq_true rfl) [(0, .c (.sl 2 (encTys l))), (1, .c (.sl 2 (encTys r))), (2, .c (.clo f caps))] rfl fun β hβ => ?_; have hf := Try.func105
    repeat' (first | refine AK.runP Try.hX Try.mixed 300 rfl ?_ | refine AK.condTe rfl asmo ?_ | refine AK.condFe rfl asmo ?_ | (refine AK.condS rfl (fun h => ?_) (fun h => ?_) <;> first | (cases h; done) | rw [h] | skip) | refine AK.retQ Try.hX hf rfl rfl ?_ | refine AK.region Try.mixed rfl ?_ | refine AOps.done ?_ | refine AOps.runS Try.hX kn rfl ?_ | refine AOps.box kn rfl rfl rfl rfl rfl rfl ?_ | refine AOps.alloc Try.hX kn rfl rfl rfl rfl rfl rfl rfl ?_ | refine AOps.store Try.hX kn rfl rfl rfl rfl rfl rfl rfl rfl rfl rfl rfl ?_ | refine AOps.buildSlice Try.hX kn rfl rfl rfl rfl rfl rfl rfl rfl rfl rfl rfl rfl ?_ | refine AOps.append Try.hX kn rfl rfl rfl rfl rfl rfl rfl rfl rfl rfl rfl rfl rfl rfl rfl rfl rfl rfl rfl rfl rfl ?_ ?_ | refine AOps.toStr Try.hX kn rfl rfl rfl rfl rfl rfl rfl rfl rfl rfl rfl (by first | exact rfl | exact byte1 _) rfl ?_ | refine AOps.buildArr Try.hX kn rfl rfl rfl rfl rfl rfl rfl rfl ?_ | refine AOps.indexArr Try.hX kn rfl rfl rfl rfl rfl rfl rfl rfl rfl rfl rfl rfl ?_ | refine AOps.runP1 Try.hX kn rfl rfl ?_ | (refine AOps.splitT rfl rfl rfl asmo (fun h => ?_) <;> (fail_if_success (cases h; done)) <;> rw [h]) | (refine AOps.splitF rfl rfl rfl asmo (fun h => ?_) <;> (fail_if_success (cases h; done)) <;> rw [h]) | (refine AOps.split rfl rfl rfl (fun h => ?_) (fun h => ?_) <;> (fail_if_success (cases h; done)) <;> rw [h]) | refine AOps.drawn (by kernel_rfl) ?_)
    refine AK.loopE (α := Nat) (fun i => i ≤ l.length ∧ eqBy q l r = eqBy q (l.drop i) (r.drop i)) (fun i => l.length - i)
      (fun i => [(17, .c (.int .i64 i)), (16, .c (.int .i64 (encTys l).length)), (15, .c (.sl 2 (encTys l))), (1, .c (.sl 2 (encTys r))), (2, .c (.clo f caps))]) (fun _ => []) (fun _ => []) [] 0
      ⟨by omega, rfl⟩ ⟨.inl rfl, .inl rfl, .inl rfl, .inl rfl, .inl rfl, trivial⟩ trivial trivial rfl rfl rfl ?_
    rintro i ⟨hi, hinv⟩ ih
    rcases get_or l i hi with ⟨x, hx, hm⟩ | he
    · have hc := tys_lt hx
      obtain ⟨y, hy⟩ : ∃ y, r[i]? = some y := ⟨r[i]'(by have := lt_of_get hx; omega), by simp⟩
      have hq := hp x hm y (List.mem_of_getElem? hy)
      rw [drop_at hx, drop_at hy] at hinv
      simp only [eqBy] at hinv
      obtain ⟨T, args⟩ := x
      obtain ⟨U, us⟩ := y
      repeat' (first | refine AK.runP Try.hX Try.mixed 300 rfl ?_ | refine AK.condTe rfl asmo ?_ | refine AK.condFe rfl asmo ?_ | (refine AK.condS rfl (fun h => ?_) (fun h => ?_) <;> first | (cases h; done) | rw [h] | skip) | refine AK.retQ Try.hX hf rfl rfl ?_ | refine AK.region Try.mixed rfl ?_ | refine AOps.done ?_ | refine AOps.runS Try.hX kn rfl ?_ | refine AOps.index Try.hX rfl rfl rfl rfl rfl rfl rfl rfl rfl rfl (i) rfl (tys_at hx) rfl ?_ | refine AOps.index Try.hX rfl rfl rfl rfl rfl rfl rfl rfl rfl rfl (i) rfl (tys_at hy) rfl ?_ | refine AOps.callc kn rfl rfl rfl rfl rfl (hq) ?_ | refine AOps.box kn rfl rfl rfl rfl rfl rfl ?_ | refine AOps.alloc Try.hX kn rfl rfl rfl rfl rfl rfl rfl ?_ | refine AOps.store Try.hX kn rfl rfl rfl rfl rfl rfl rfl rfl rfl rfl rfl ?_ | refine AOps.buildSlice Try.hX kn rfl rfl rfl rfl rfl rfl rfl rfl rfl rfl rfl rfl ?_ | refine AOps.append Try.hX kn rfl rfl rfl rfl rfl rfl rfl rfl rfl rfl rfl rfl rfl rfl rfl rfl rfl rfl rfl rfl rfl ?_ ?_ | refine AOps.toStr Try.hX kn rfl rfl rfl rfl rfl rfl rfl rfl rfl rfl rfl (by first | exact rfl | exact byte1 _) rfl ?_ | refine AOps.buildArr Try.hX kn rfl rfl rfl rfl rfl rfl rfl rfl ?_ | refine AOps.indexArr Try.hX kn rfl rfl rfl rfl rfl rfl rfl rfl rfl rfl rfl rfl ?_ | refine AOps.runP1 Try.hX kn rfl rfl ?_ | (refine AOps.splitT rfl rfl rfl asmo (fun h => ?_) <;> (fail_if_success (cases h; done)) <;> rw [h]) | (refine AOps.splitF rfl rfl rfl asmo (fun h => ?_) <;> (fail_if_success (cases h; done)) <;> rw [h]) | (refine AOps.split rfl rfl rfl (fun h => ?_) (fun h => ?_) <;> (fail_if_success (cases h; done)) <;> rw [h]) | refine AOps.drawn (by kernel_rfl) ?_)
      · rw [hinv]; simp_all
      · refine AK.again (ih (i + 1) ⟨lt_of_get hx, ?_⟩ (by have := lt_of_get hx; omega)) ⟨.inl (succ64 (by have := lt_of_get hx; omega)), .inl rfl, .inl rfl, .inl rfl, .inl rfl, trivial⟩ trivial trivial rfl rfl rfl
        simp_all
    · have hc := tys_end he
      repeat' (first | refine AK.runP Try.hX Try.mixed 300 rfl ?_ | refine AK.condTe rfl asmo ?_ | refine AK.condFe rfl asmo ?_ | (refine AK.condS rfl (fun h => ?_) (fun h => ?_) <;> first | (cases h; done) | rw [h] | skip) | refine AK.retQ Try.hX hf rfl rfl ?_ | refine AK.region Try.mixed rfl ?_ | refine AOps.done ?_ | refine AOps.runS Try.hX kn rfl ?_ | refine AOps.box kn rfl rfl rfl rfl rfl rfl ?_ | refine AOps.alloc Try.hX kn rfl rfl rfl rfl rfl rfl rfl ?_ | refine AOps.store Try.hX kn rfl rfl rfl rfl rfl rfl rfl rfl rfl rfl rfl ?_ | refine AOps.buildSlice Try.hX kn rfl rfl rfl rfl rfl rfl rfl rfl rfl rfl rfl rfl ?_ | refine AOps.append Try.hX kn rfl rfl rfl rfl rfl rfl rfl rfl rfl rfl rfl rfl rfl rfl rfl rfl rfl rfl rfl rfl rfl ?_ ?_ | refine AOps.toStr Try.hX kn rfl rfl rfl rfl rfl rfl rfl rfl rfl rfl rfl (by first | exact rfl | exact byte1 _) rfl ?_ | refine AOps.buildArr Try.hX kn rfl rfl rfl rfl rfl rfl rfl rfl ?_ | refine AOps.indexArr Try.hX kn rfl rfl rfl rfl rfl rfl rfl rfl rfl rfl rfl rfl ?_ | refine AOps.runP1 Try.hX kn rfl rfl ?_ | (refine AOps.splitT rfl rfl rfl asmo (fun h => ?_) <;> (fail_if_success (cases h; done)) <;> rw [h]) | (refine AOps.splitF rfl rfl rfl asmo (fun h => ?_) <;> (fail_if_success (cases h; done)) <;> rw [h]) | (refine AOps.split rfl rfl rfl (fun h => ?_) (fun h => ?_) <;> (fail_if_success (cases h; done)) <;> rw [h]) | refine AOps.drawn (by kernel_rfl) ?_)
      rw [hinv, eqBy_end q hl he]
  · have hne : ((((encTys l).length : Nat) : Int) != (((encTys r).length : Nat) : Int)) = true := by rw [encTys_length, encTys_length]; simp; omega
    rw [eqBy_len q l r hl]
    refine QCalls.of Try.func105 rfl (fun args w => Try.call105 args w) (Nat.le_of_ble_eq_true rfl) [(0, .c (.sl 2 (encTys l))), (1, .c (.sl 2 (encTys r))), (2, .c (.clo f caps))] rfl fun β hβ => ?_; have hf := Try.func105
    repeat' (first | refine AK.runP Try.hX Try.mixed 300 rfl ?_ | refine AK.condTe rfl asmo ?_ | refine AK.condFe rfl asmo ?_ | (refine AK.condS rfl (fun h => ?_) (fun h => ?_) <;> first | (cases h; done) | rw [h] | skip) | refine AK.retQ Try.hX hf rfl rfl ?_ | refine AK.region Try.mixed rfl ?_ | refine AOps.done ?_ | refine AOps.runS Try.hX kn rfl ?_ | refine AOps.box kn rfl rfl rfl rfl rfl rfl ?_ | refine AOps.alloc Try.hX kn rfl rfl rfl rfl rfl rfl rfl ?_ | refine AOps.store Try.hX kn rfl rfl rfl rfl rfl rfl rfl rfl rfl rfl rfl ?_ | refine AOps.buildSlice Try.hX kn rfl rfl rfl rfl rfl rfl rfl rfl rfl rfl rfl rfl ?_ | refine AOps.append Try.hX kn rfl rfl rfl rfl rfl rfl rfl rfl rfl rfl rfl rfl rfl rfl rfl rfl rfl rfl rfl rfl rfl ?_ ?_ | refine AOps.toStr Try.hX kn rfl rfl rfl rfl rfl rfl rfl rfl rfl rfl rfl (by first | exact rfl | exact byte1 _) rfl ?_ | refine AOps.buildArr Try.hX kn rfl rfl rfl rfl rfl rfl rfl rfl ?_ | refine AOps.indexArr Try.hX kn rfl rfl rfl rfl rfl rfl rfl rfl rfl rfl rfl rfl ?_ | refine AOps.runP1 Try.hX kn rfl rfl ?_ | (refine AOps.splitT rfl rfl rfl asmo (fun h => ?_) <;> (fail_if_success (cases h; done)) <;> rw [h]) | (refine AOps.splitF rfl rfl rfl asmo (fun h => ?_) <;> (fail_if_success (cases h; done)) <;> rw [h]) | (refine AOps.split rfl rfl rfl (fun h => ?_) (fun h => ?_) <;> (fail_if_success (cases h; done)) <;> rw [h]) | refine AOps.drawn (by kernel_rfl) ?_)
    all_goals rfl

set_option maxHeartbeats 0 in
theorem Same_calls : ∀ (t u : Ty), tySize t ≤ 1099511627776 → QCalls Try.prog Try.X 57 [encTy t, encTy u] (.bool (tySame t u))
  | .mk T args, .mk U us, ht => by
    simp only [tySize] at ht
    have hl1 := tysSize_len args
    have hq := eqFuncTy_calls args us tySame 57 [] (fun x hx y _ => Same_calls x y (by have := tysSize_mem hx; omega)) (by omega)
    rw [eqBy_tys] at hq
    refine QCalls.of Try.func57 rfl (fun args w => Try.call57 args w) (Nat.le_of_ble_eq_true rfl) [(0, .c (encTy (.mk T args))), (1, .c (encTy (.mk U us)))] rfl fun β hβ => ?_; have hf := Try.func57
    repeat' (first | refine AK.runP Try.hX Try.mixed 300 rfl ?_ | refine AK.condTe rfl asmo ?_ | refine AK.condFe rfl asmo ?_ | (refine AK.condS rfl (fun h => ?_) (fun h => ?_) <;> first | (cases h; done) | rw [h] | skip) | refine AK.retQ Try.hX hf rfl rfl ?_ | refine AK.region Try.mixed rfl ?_ | refine AOps.done ?_ | refine AOps.runS Try.hX kn rfl ?_ | refine AOps.callq kn rfl rfl rfl rfl (hq) ?_ | refine AOps.box kn rfl rfl rfl rfl rfl rfl ?_ | refine AOps.alloc Try.hX kn rfl rfl rfl rfl rfl rfl rfl ?_ | refine AOps.store Try.hX kn rfl rfl rfl rfl rfl rfl rfl rfl rfl rfl rfl ?_ | refine AOps.buildSlice Try.hX kn rfl rfl rfl rfl rfl rfl rfl rfl rfl rfl rfl rfl ?_ | refine AOps.append Try.hX kn rfl rfl rfl rfl rfl rfl rfl rfl rfl rfl rfl rfl rfl rfl rfl rfl rfl rfl rfl rfl rfl ?_ ?_ | refine AOps.toStr Try.hX kn rfl rfl rfl rfl rfl rfl rfl rfl rfl rfl rfl (by first | exact rfl | exact byte1 _) rfl ?_ | refine AOps.buildArr Try.hX kn rfl rfl rfl rfl rfl rfl rfl rfl ?_ | refine AOps.indexArr Try.hX kn rfl rfl rfl rfl rfl rfl rfl rfl rfl rfl rfl rfl ?_ | refine AOps.runP1 Try.hX kn rfl rfl ?_ | (refine AOps.splitT rfl rfl rfl asmo (fun h => ?_) <;> (fail_if_success (cases h; done)) <;> rw [h]) | (refine AOps.splitF rfl rfl rfl asmo (fun h => ?_) <;> (fail_if_success (cases h; done)) <;> rw [h]) | (refine AOps.split rfl rfl rfl (fun h => ?_) (fun h => ?_) <;> (fail_if_success (cases h; done)) <;> rw [h]) | refine AOps.drawn (by kernel_rfl) ?_)
    all_goals simp_all [tySame]
termination_by t => SizeOf.sizeOf t
decreasing_by
  have := List.sizeOf_lt_of_mem hx
  simp at this ⊢; omega

set_option maxHeartbeats 0 in
theorem SameType_calls : ∀ (t u : Ty), tySize t ≤ 1099511627776 → QCalls Try.prog Try.X 30 [encTy t, encTy u] (.bool (tySame t u))
  | .mk T args, .mk U us, ht => by
    simp only [tySize] at ht
    have hl1 := tysSize_len args
    have hin : ∀ x ∈ args, ∀ y, QCalls Try.prog Try.X 30 [encTy x, encTy y] (.bool (tySame x y)) := fun x hx y => SameType_calls x y (by have := tysSize_mem hx; omega)
    by_cases hl : (T = U) ∧ args.length = us.length
    · have hT : tySame (.mk T args) (.mk U us) = tysSame args us := by simp [tySame, hl]
      have hne : ((((encTys args).length : Nat) : Int) != (((encTys us).length : Nat) : Int)) = false := by rw [encTys_length, encTys_length, hl.2]; simp
      obtain ⟨rfl, hlen⟩ := hl
      rw [hT]
      clear hT
      refine QCalls.of Try.func30 rfl (fun args w => Try.call30 args w) (Nat.le_of_ble_eq_true rfl) [(0, .c (encTy (.mk T args))), (1, .c (encTy (.mk T us)))] rfl fun β hβ => ?_; have hf := Try.func30
      repeat' (first | refine AK.runP Try.hX Try.mixed 300 rfl ?_ | refine AK.condTe rfl asmo ?_ | refine AK.condFe rfl asmo ?_ | (refine AK.condS rfl (fun h => ?_) (fun h => ?_) <;> first | (cases h; done) | rw [h] | skip) | refine AK.retQ Try.hX hf rfl rfl ?_ | refine AK.region Try.mixed rfl ?_ | refine AOps.done ?_ | refine AOps.runS Try.hX kn rfl ?_ | refine AOps.box kn rfl rfl rfl rfl rfl rfl ?_ | refine AOps.alloc Try.hX kn rfl rfl rfl rfl rfl rfl rfl ?_ | refine AOps.store Try.hX kn rfl rfl rfl rfl rfl rfl rfl rfl rfl rfl rfl ?_ | refine AOps.buildSlice Try.hX kn rfl rfl rfl rfl rfl rfl rfl rfl rfl rfl rfl rfl ?_ | refine AOps.append Try.hX kn rfl rfl rfl rfl rfl rfl rfl rfl rfl rfl rfl rfl rfl rfl rfl rfl rfl rfl rfl rfl rfl ?_ ?_ | refine AOps.toStr Try.hX kn rfl rfl rfl rfl rfl rfl rfl rfl rfl rfl rfl (by first | exact rfl | exact byte1 _) rfl ?_ | refine AOps.buildArr Try.hX kn rfl rfl rfl rfl rfl rfl rfl rfl ?_ | refine AOps.indexArr Try.hX kn rfl rfl rfl rfl rfl rfl rfl rfl rfl rfl rfl rfl ?_ | refine AOps.runP1 Try.hX kn rfl rfl ?_ | (refine AOps.splitT rfl rfl rfl asmo (fun h => ?_) <;> (fail_if_success (cases h; done)) <;> rw [h]) | (refine AOps.splitF rfl rfl rfl asmo (fun h => ?_) <;> (fail_if_success (cases h; done)) <;> rw [h]) | (refine AOps.split rfl rfl rfl (fun h => ?_) (fun h => ?_) <;> (fail_if_success (cases h; done)) <;> rw [h]) | refine AOps.drawn (by kernel_rfl) ?_)
      all_goals first | (exfalso; simp_all; done) | skip
      refine AK.loopE (α := Nat) (fun i => i ≤ args.length ∧ tysSame args us = tysSame (args.drop i) (us.drop i)) (fun i => args.length - i)
        (fun i => [(23, .c (.int .i64 i)), (22, .c (.int .i64 (encTys args).length)), (2, .ptr 2 0), (3, .ptr 3 0)])
        (fun _ => [(2, [.c (.int .i64 T), .c (.sl 2 (encTys args))]), (3, [.c (.int .i64 T), .c (.sl 2 (encTys us))])]) (fun _ => []) [2, 3] 0
        ⟨by omega, rfl⟩ ⟨.inl rfl, .inl rfl, .inl rfl, .inl rfl, trivial⟩ ⟨rfl, rfl, trivial⟩ trivial rfl rfl rfl ?_
      rintro i ⟨hi, hinv⟩ ih
      rcases get_or args i hi with ⟨x, hx, hm⟩ | he
      · have hc := tys_lt hx
        obtain ⟨y, hy⟩ : ∃ y, us[i]? = some y := ⟨us[i]'(by have := lt_of_get hx; omega), by simp⟩
        have hq := hin x hm y
        rw [drop_at hx, drop_at hy] at hinv
        simp only [tysSame] at hinv
        obtain ⟨W, ws⟩ := x
        obtain ⟨V, vs⟩ := y
        repeat' (first | refine AK.runP Try.hX Try.mixed 300 rfl ?_ | refine AK.condTe rfl asmo ?_ | refine AK.condFe rfl asmo ?_ | (refine AK.condS rfl (fun h => ?_) (fun h => ?_) <;> first | (cases h; done) | rw [h] | skip) | refine AK.retQ Try.hX hf rfl rfl ?_ | refine AK.region Try.mixed rfl ?_ | refine AOps.done ?_ | refine AOps.runS Try.hX kn rfl ?_ | refine AOps.index Try.hX rfl rfl rfl rfl rfl rfl rfl rfl rfl rfl (i) rfl (tys_at hx) rfl ?_ | refine AOps.index Try.hX rfl rfl rfl rfl rfl rfl rfl rfl rfl rfl (i) rfl (tys_at hy) rfl ?_ | refine AOps.callq kn rfl rfl rfl rfl (hq) ?_ | refine AOps.box kn rfl rfl rfl rfl rfl rfl ?_ | refine AOps.alloc Try.hX kn rfl rfl rfl rfl rfl rfl rfl ?_ | refine AOps.store Try.hX kn rfl rfl rfl rfl rfl rfl rfl rfl rfl rfl rfl ?_ | refine AOps.buildSlice Try.hX kn rfl rfl rfl rfl rfl rfl rfl rfl rfl rfl rfl rfl ?_ | refine AOps.append Try.hX kn rfl rfl rfl rfl rfl rfl rfl rfl rfl rfl rfl rfl rfl rfl rfl rfl rfl rfl rfl rfl rfl ?_ ?_ | refine AOps.toStr Try.hX kn rfl rfl rfl rfl rfl rfl rfl rfl rfl rfl rfl (by first | exact rfl | exact byte1 _) rfl ?_ | refine AOps.buildArr Try.hX kn rfl rfl rfl rfl rfl rfl rfl rfl ?_ | refine AOps.indexArr Try.hX kn rfl rfl rfl rfl rfl rfl rfl rfl rfl rfl rfl rfl ?_ | refine AOps.runP1 Try.hX kn rfl rfl ?_ | (refine AOps.splitT rfl rfl rfl asmo (fun h => ?_) <;> (fail_if_success (cases h; done)) <;> rw [h]) | (refine AOps.splitF rfl rfl rfl asmo (fun h => ?_) <;> (fail_if_success (cases h; done)) <;> rw [h]) | (refine AOps.split rfl rfl rfl (fun h => ?_) (fun h => ?_) <;> (fail_if_success (cases h; done)) <;> rw [h]) | refine AOps.drawn (by kernel_rfl) ?_)
        · rw [hinv]; simp_all
        · refine AK.again (ih (i + 1) ⟨lt_of_get hx, ?_⟩ (by have := lt_of_get hx; omega)) ⟨.inl (succ64 (by have := lt_of_get hx; omega)), .inl rfl, .inl rfl, .inl rfl, trivial⟩ ⟨rfl, rfl, trivial⟩ trivial rfl rfl rfl
          simp_all
      · have hc := tys_end he
        clear ih
        repeat' (first | refine AK.runP Try.hX Try.mixed 300 rfl ?_ | refine AK.condTe rfl asmo ?_ | refine AK.condFe rfl asmo ?_ | (refine AK.condS rfl (fun h => ?_) (fun h => ?_) <;> first | (cases h; done) | rw [h] | skip) | refine AK.retQ Try.hX hf rfl rfl ?_ | refine AK.region Try.mixed rfl ?_ | refine AOps.done ?_ | refine AOps.runS Try.hX kn rfl ?_ | refine AOps.box kn rfl rfl rfl rfl rfl rfl ?_ | refine AOps.alloc Try.hX kn rfl rfl rfl rfl rfl rfl rfl ?_ | refine AOps.store Try.hX kn rfl rfl rfl rfl rfl rfl rfl rfl rfl rfl rfl ?_ | refine AOps.buildSlice Try.hX kn rfl rfl rfl rfl rfl rfl rfl rfl rfl rfl rfl rfl ?_ | refine AOps.append Try.hX kn rfl rfl rfl rfl rfl rfl rfl rfl rfl rfl rfl rfl rfl rfl rfl rfl rfl rfl rfl rfl rfl ?_ ?_ | refine AOps.toStr Try.hX kn rfl rfl rfl rfl rfl rfl rfl rfl rfl rfl rfl (by first | exact rfl | exact byte1 _) rfl ?_ | refine AOps.buildArr Try.hX kn rfl rfl rfl rfl rfl rfl rfl rfl ?_ | refine AOps.indexArr Try.hX kn rfl rfl rfl rfl rfl rfl rfl rfl rfl rfl rfl rfl ?_ | refine AOps.runP1 Try.hX kn rfl rfl ?_ | (refine AOps.splitT rfl rfl rfl asmo (fun h => ?_) <;> (fail_if_success (cases h; done)) <;> rw [h]) | (refine AOps.splitF rfl rfl rfl asmo (fun h => ?_) <;> (fail_if_success (cases h; done)) <;> rw [h]) | (refine AOps.split rfl rfl rfl (fun h => ?_) (fun h => ?_) <;> (fail_if_success (cases h; done)) <;> rw [h]) | refine AOps.drawn (by kernel_rfl) ?_)
        rw [hinv, he, List.drop_length, hlen, List.drop_length]; rfl
    · have hT : tySame (.mk T args) (.mk U us) = false := by
        by_cases hh : (T = U)
        · have : args.length ≠ us.length := fun h => hl ⟨hh, h⟩
          simp [tySame, tysSame_len _ _ this]
        · simp only [tySame]; simp [hh]
      rw [hT]
      refine QCalls.of Try.func30 rfl (fun args w => Try.call30 args w) (Nat.le_of_ble_eq_true rfl) [(0, .c (encTy (.mk T args))), (1, .c (encTy (.mk U us)))] rfl fun β hβ => ?_; have hf := Try.func30
      repeat' (first | refine AK.runP Try.hX Try.mixed 300 rfl ?_ | refine AK.condTe rfl asmo ?_ | refine AK.condFe rfl asmo ?_ | (refine AK.condS rfl (fun h => ?_) (fun h => ?_) <;> first | (cases h; done) | rw [h] | skip) | refine AK.retQ Try.hX hf rfl rfl ?_ | refine AK.region Try.mixed rfl ?_ | refine AOps.done ?_ | refine AOps.runS Try.hX kn rfl ?_ | refine AOps.box kn rfl rfl rfl rfl rfl rfl ?_ | refine AOps.alloc Try.hX kn rfl rfl rfl rfl rfl rfl rfl ?_ | refine AOps.store Try.hX kn rfl rfl rfl rfl rfl rfl rfl rfl rfl rfl rfl ?_ | refine AOps.buildSlice Try.hX kn rfl rfl rfl rfl rfl rfl rfl rfl rfl rfl rfl rfl ?_ | refine AOps.append Try.hX kn rfl rfl rfl rfl rfl rfl rfl rfl rfl rfl rfl rfl rfl rfl rfl rfl rfl rfl rfl rfl rfl ?_ ?_ | refine AOps.toStr Try.hX kn rfl rfl rfl rfl rfl rfl rfl rfl rfl rfl rfl (by first | exact rfl | exact byte1 _) rfl ?_ | refine AOps.buildArr Try.hX kn rfl rfl rfl rfl rfl rfl rfl rfl ?_ | refine AOps.indexArr Try.hX kn rfl rfl rfl rfl rfl rfl rfl rfl rfl rfl rfl rfl ?_ | refine AOps.runP1 Try.hX kn rfl rfl ?_ | (refine AOps.splitT rfl rfl rfl asmo (fun h => ?_) <;> (fail_if_success (cases h; done)) <;> rw [h]) | (refine AOps.splitF rfl rfl rfl asmo (fun h => ?_) <;> (fail_if_success (cases h; done)) <;> rw [h]) | (refine AOps.split rfl rfl rfl (fun h => ?_) (fun h => ?_) <;> (fail_if_success (cases h; done)) <;> rw [h]) | refine AOps.drawn (by kernel_rfl) ?_)
      all_goals first
        | (show (_ : CV) = _; rfl)
        | (exfalso; clear hin hf hT; apply hl; clear hl; simp_all [encTys_length] <;> omega)
termination_by t => SizeOf.sizeOf t
decreasing_by
  have := List.sizeOf_lt_of_mem hx
  simp at this ⊢; omega

set_option maxHeartbeats 0 in
theorem SameNode_calls : ∀ (t u : Nd), ndSize t ≤ 1099511627776 → QCalls Try.prog Try.X 55 [encNd t, encNd u] (.bool (ndSame t u))
  | .mk a1 a2 a3 a4 args, .mk b1 b2 b3 b4 us, ht => by
    simp only [ndSize] at ht
    have hl1 := ndsSize_len args
    have hin : ∀ x ∈ args, ∀ y, QCalls Try.prog Try.X 55 [encNd x, encNd y] (.bool (ndSame x y)) := fun x hx y => SameNode_calls x y (by have := ndsSize_mem hx; omega)
    by_cases hl : (a1 = b1 ∧ a2 = b2 ∧ a3 = b3 ∧ a4 = b4) ∧ args.length = us.length
    · have hT : ndSame (.mk a1 a2 a3 a4 args) (.mk b1 b2 b3 b4 us) = ndsSame args us := by simp [ndSame, hl]
      have hne : ((((encNds args).length : Nat) : Int) != (((encNds us).length : Nat) : Int)) = false := by rw [encNds_length, encNds_length, hl.2]; simp
      obtain ⟨⟨rfl, rfl, rfl, rfl⟩, hlen⟩ := hl
      rw [hT]
      clear hT
      refine QCalls.of Try.func55 rfl (fun args w => Try.call55 args w) (Nat.le_of_ble_eq_true rfl) [(0, .c (encNd (.mk a1 a2 a3 a4 args))), (1, .c (encNd (.mk a1 a2 a3 a4 us)))] rfl fun β hβ => ?_; have hf := Try.func55
      repeat' (first | refine AK.runP Try.hX Try.mixed 300 rfl ?_ | refine AK.condTe rfl asmo ?_ | refine AK.condFe rfl asmo ?_ | (refine AK.condS rfl (fun h => ?_) (fun h => ?_) <;> first | (cases h; done) | rw [h] | skip) | refine AK.retQ Try.hX hf rfl rfl ?_ | refine AK.region Try.mixed rfl ?_ | refine AOps.done ?_ | refine AOps.runS Try.hX kn rfl ?_ | refine AOps.box kn rfl rfl rfl rfl rfl rfl ?_ | refine AOps.alloc Try.hX kn rfl rfl rfl rfl rfl rfl rfl ?_ | refine AOps.store Try.hX kn rfl rfl rfl rfl rfl rfl rfl rfl rfl rfl rfl ?_ | refine AOps.buildSlice Try.hX kn rfl rfl rfl rfl rfl rfl rfl rfl rfl rfl rfl rfl ?_ | refine AOps.append Try.hX kn rfl rfl rfl rfl rfl rfl rfl rfl rfl rfl rfl rfl rfl rfl rfl rfl rfl rfl rfl rfl rfl ?_ ?_ | refine AOps.toStr Try.hX kn rfl rfl rfl rfl rfl rfl rfl rfl rfl rfl rfl (by first | exact rfl | exact byte1 _) rfl ?_ | refine AOps.buildArr Try.hX kn rfl rfl rfl rfl rfl rfl rfl rfl ?_ | refine AOps.indexArr Try.hX kn rfl rfl rfl rfl rfl rfl rfl rfl rfl rfl rfl rfl ?_ | refine AOps.runP1 Try.hX kn rfl rfl ?_ | (refine AOps.splitT rfl rfl rfl asmo (fun h => ?_) <;> (fail_if_success (cases h; done)) <;> rw [h]) | (refine AOps.splitF rfl rfl rfl asmo (fun h => ?_) <;> (fail_if_success (cases h; done)) <;> rw [h]) | (refine AOps.split rfl rfl rfl (fun h => ?_) (fun h => ?_) <;> (fail_if_success (cases h; done)) <;> rw [h]) | refine AOps.drawn (by kernel_rfl) ?_)
      all_goals first | (exfalso; simp_all; done) | skip
      refine AK.loopE (α := Nat) (fun i => i ≤ args.length ∧ ndsSame args us = ndsSame (args.drop i) (us.drop i)) (fun i => args.length - i)
        (fun i => [(44, .c (.int .i64 i)), (43, .c (.int .i64 (encNds args).length)), (2, .ptr 2 0), (3, .ptr 3 0)])
        (fun _ => [(2, [.c (.int .i64 a1), .c (.int .i64 a2), .c (.int .i64 a3), .c (.str a4), .c (.sl 5 (encNds args))]), (3, [.c (.int .i64 a1), .c (.int .i64 a2), .c (.int .i64 a3), .c (.str a4), .c (.sl 5 (encNds us))])]) (fun _ => []) [2, 3] 0
        ⟨by omega, rfl⟩ ⟨.inl rfl, .inl rfl, .inl rfl, .inl rfl, trivial⟩ ⟨rfl, rfl, trivial⟩ trivial rfl rfl rfl ?_
      rintro i ⟨hi, hinv⟩ ih
      rcases get_or args i hi with ⟨x, hx, hm⟩ | he
      · have hc := nds_lt hx
        obtain ⟨y, hy⟩ : ∃ y, us[i]? = some y := ⟨us[i]'(by have := lt_of_get hx; omega), by simp⟩
        have hq := hin x hm y
        rw [drop_at hx, drop_at hy] at hinv
        simp only [ndsSame] at hinv
        obtain ⟨x1, x2, x3, x4, x5⟩ := x
        obtain ⟨y1, y2, y3, y4, y5⟩ := y
        repeat' (first | refine AK.runP Try.hX Try.mixed 300 rfl ?_ | refine AK.condTe rfl asmo ?_ | refine AK.condFe rfl asmo ?_ | (refine AK.condS rfl (fun h => ?_) (fun h => ?_) <;> first | (cases h; done) | rw [h] | skip) | refine AK.retQ Try.hX hf rfl rfl ?_ | refine AK.region Try.mixed rfl ?_ | refine AOps.done ?_ | refine AOps.runS Try.hX kn rfl ?_ | refine AOps.index Try.hX rfl rfl rfl rfl rfl rfl rfl rfl rfl rfl (i) rfl (nds_at hx) rfl ?_ | refine AOps.index Try.hX rfl rfl rfl rfl rfl rfl rfl rfl rfl rfl (i) rfl (nds_at hy) rfl ?_ | refine AOps.callq kn rfl rfl rfl rfl (hq) ?_ | refine AOps.box kn rfl rfl rfl rfl rfl rfl ?_ | refine AOps.alloc Try.hX kn rfl rfl rfl rfl rfl rfl rfl ?_ | refine AOps.store Try.hX kn rfl rfl rfl rfl rfl rfl rfl rfl rfl rfl rfl ?_ | refine AOps.buildSlice Try.hX kn rfl rfl rfl rfl rfl rfl rfl rfl rfl rfl rfl rfl ?_ | refine AOps.append Try.hX kn rfl rfl rfl rfl rfl rfl rfl rfl rfl rfl rfl rfl rfl rfl rfl rfl rfl rfl rfl rfl rfl ?_ ?_ | refine AOps.toStr Try.hX kn rfl rfl rfl rfl rfl rfl rfl rfl rfl rfl rfl (by first | exact rfl | exact byte1 _) rfl ?_ | refine AOps.buildArr Try.hX kn rfl rfl rfl rfl rfl rfl rfl rfl ?_ | refine AOps.indexArr Try.hX kn rfl rfl rfl rfl rfl rfl rfl rfl rfl rfl rfl rfl ?_ | refine AOps.runP1 Try.hX kn rfl rfl ?_ | (refine AOps.splitT rfl rfl rfl asmo (fun h => ?_) <;> (fail_if_success (cases h; done)) <;> rw [h]) | (refine AOps.splitF rfl rfl rfl asmo (fun h => ?_) <;> (fail_if_success (cases h; done)) <;> rw [h]) | (refine AOps.split rfl rfl rfl (fun h => ?_) (fun h => ?_) <;> (fail_if_success (cases h; done)) <;> rw [h]) | refine AOps.drawn (by kernel_rfl) ?_)
        · rw [hinv]; simp_all
        · refine AK.again (ih (i + 1) ⟨lt_of_get hx, ?_⟩ (by have := lt_of_get hx; omega)) ⟨.inl (succ64 (by have := lt_of_get hx; omega)), .inl rfl, .inl rfl, .inl rfl, trivial⟩ ⟨rfl, rfl, trivial⟩ trivial rfl rfl rfl
          simp_all
      · have hc := nds_end he
        clear ih
        repeat' (first | refine AK.runP Try.hX Try.mixed 300 rfl ?_ | refine AK.condTe rfl asmo ?_ | refine AK.condFe rfl asmo ?_ | (refine AK.condS rfl (fun h => ?_) (fun h => ?_) <;> first | (cases h; done) | rw [h] | skip) | refine AK.retQ Try.hX hf rfl rfl ?_ | refine AK.region Try.mixed rfl ?_ | refine AOps.done ?_ | refine AOps.runS Try.hX kn rfl ?_ | refine AOps.box kn rfl rfl rfl rfl rfl rfl ?_ | refine AOps.alloc Try.hX kn rfl rfl rfl rfl rfl rfl rfl ?_ | refine AOps.store Try.hX kn rfl rfl rfl rfl rfl rfl rfl rfl rfl rfl rfl ?_ | refine AOps.buildSlice Try.hX kn rfl rfl rfl rfl rfl rfl rfl rfl rfl rfl rfl rfl ?_ | refine AOps.append Try.hX kn rfl rfl rfl rfl rfl rfl rfl rfl rfl rfl rfl rfl rfl rfl rfl rfl rfl rfl rfl rfl rfl ?_ ?_ | refine AOps.toStr Try.hX kn rfl rfl rfl rfl rfl rfl rfl rfl rfl rfl rfl (by first | exact rfl | exact byte1 _) rfl ?_ | refine AOps.buildArr Try.hX kn rfl rfl rfl rfl rfl rfl rfl rfl ?_ | refine AOps.indexArr Try.hX kn rfl rfl rfl rfl rfl rfl rfl rfl rfl rfl rfl rfl ?_ | refine AOps.runP1 Try.hX kn rfl rfl ?_ | (refine AOps.splitT rfl rfl rfl asmo (fun h => ?_) <;> (fail_if_success (cases h; done)) <;> rw [h]) | (refine AOps.splitF rfl rfl rfl asmo (fun h => ?_) <;> (fail_if_success (cases h; done)) <;> rw [h]) | (refine AOps.split rfl rfl rfl (fun h => ?_) (fun h => ?_) <;> (fail_if_success (cases h; done)) <;> rw [h]) | refine AOps.drawn (by kernel_rfl) ?_)
        rw [hinv, he, List.drop_length, hlen, List.drop_length]; rfl
    · have hT : ndSame (.mk a1 a2 a3 a4 args) (.mk b1 b2 b3 b4 us) = false := by
        by_cases hh : (a1 = b1 ∧ a2 = b2 ∧ a3 = b3 ∧ a4 = b4)
        · have : args.length ≠ us.length := fun h => hl ⟨hh, h⟩
          simp [ndSame, ndsSame_len _ _ this]
        · simp only [ndSame]; simp only [Bool.and_eq_false_iff, beq_eq_false_iff_ne]; by_cases p1 : a1 = b1 <;> by_cases p2 : a2 = b2 <;> by_cases p3 : a3 = b3 <;> by_cases p4 : a4 = b4 <;> simp_all
      rw [hT]
      refine QCalls.of Try.func55 rfl (fun args w => Try.call55 args w) (Nat.le_of_ble_eq_true rfl) [(0, .c (encNd (.mk a1 a2 a3 a4 args))), (1, .c (encNd (.mk b1 b2 b3 b4 us)))] rfl fun β hβ => ?_; have hf := Try.func55
      repeat' (first | refine AK.runP Try.hX Try.mixed 300 rfl ?_ | refine AK.condTe rfl asmo ?_ | refine AK.condFe rfl asmo ?_ | (refine AK.condS rfl (fun h => ?_) (fun h => ?_) <;> first | (cases h; done) | rw [h] | skip) | refine AK.retQ Try.hX hf rfl rfl ?_ | refine AK.region Try.mixed rfl ?_ | refine AOps.done ?_ | refine AOps.runS Try.hX kn rfl ?_ | refine AOps.box kn rfl rfl rfl rfl rfl rfl ?_ | refine AOps.alloc Try.hX kn rfl rfl rfl rfl rfl rfl rfl ?_ | refine AOps.store Try.hX kn rfl rfl rfl rfl rfl rfl rfl rfl rfl rfl rfl ?_ | refine AOps.buildSlice Try.hX kn rfl rfl rfl rfl rfl rfl rfl rfl rfl rfl rfl rfl ?_ | refine AOps.append Try.hX kn rfl rfl rfl rfl rfl rfl rfl rfl rfl rfl rfl rfl rfl rfl rfl rfl rfl rfl rfl rfl rfl ?_ ?_ | refine AOps.toStr Try.hX kn rfl rfl rfl rfl rfl rfl rfl rfl rfl rfl rfl (by first | exact rfl | exact byte1 _) rfl ?_ | refine AOps.buildArr Try.hX kn rfl rfl rfl rfl rfl rfl rfl rfl ?_ | refine AOps.indexArr Try.hX kn rfl rfl rfl rfl rfl rfl rfl rfl rfl rfl rfl rfl ?_ | refine AOps.runP1 Try.hX kn rfl rfl ?_ | (refine AOps.splitT rfl rfl rfl asmo (fun h => ?_) <;> (fail_if_success (cases h; done)) <;> rw [h]) | (refine AOps.splitF rfl rfl rfl asmo (fun h => ?_) <;> (fail_if_success (cases h; done)) <;> rw [h]) | (refine AOps.split rfl rfl rfl (fun h => ?_) (fun h => ?_) <;> (fail_if_success (cases h; done)) <;> rw [h]) | refine AOps.drawn (by kernel_rfl) ?_)
      all_goals first
        | (show (_ : CV) = _; rfl)
        | (exfalso; clear hin hf hT; apply hl; clear hl; simp_all [encNds_length] <;> omega)
termination_by t => SizeOf.sizeOf t
decreasing_by
  have := List.sizeOf_lt_of_mem hx
  simp at this ⊢; omega

end Go.Proofs
