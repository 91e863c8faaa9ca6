/- The law ValueOrder. -/
import Derived.Test.YtcinhjfonmjneaaVal4
set_option linter.unusedVariables false
set_option linter.unusedSimpArgs false
namespace Go.Proofs
open Go.Abs
attribute [local irreducible] AK AOps QCalls ECalls vCmp vHas vSame tGood tComp tGoodN vSize tySame tHas tCompare

set_option maxHeartbeats 0 in
theorem ValueOrder_calls (t : Ty) (hw : tyWf t) (ht : tySize t ≤ 1048577) (a : Vl) (hwa : vlWf a) (ha : vlSize a ≤ 1048577) (b : Vl) (hwb : vlWf b) (hb : vlSize b ≤ 1048577) (c : Vl) (hwc : vlWf c) (hc : vlSize c ≤ 1048577) : QCalls Try.prog Try.X 19 [encTy t, encVl a, encVl b, encVl c] (.bool true) := by
  obtain ⟨T, ts⟩ := t
  obtain ⟨a1, a2, a3, a4, a5, a6, a7⟩ := a
  obtain ⟨b1, b2, b3, b4, b5, b6, b7⟩ := b
  obtain ⟨c1, c2, c3, c4, c5, c6, c7⟩ := c
  revert hw hwa hwb hwc ht ha hb hc
  generalize ht0 : Ty.mk T ts = t
  generalize ha0 : Vl.mk a1 a2 a3 a4 a5 a6 a7 = a
  generalize hb0 : Vl.mk b1 b2 b3 b4 b5 b6 b7 = b
  generalize hc0 : Vl.mk c1 c2 c3 c4 c5 c6 c7 = c
  intro hw ht hwa ha hwb hb hwc hc
  have h1 := Compare_calls t a b ht ha hb
  have h2 := Compare_calls t b c ht hb hc
  have h3 := Compare_calls t a c ht ha hc
  have h4 := Compare_calls t b a ht hb ha
  have h5 := vSame_calls a b (by omega)
  have h6 := worthK_calls
  by_cases E : tHas t a = true ∧ tHas t b = true ∧ tComp t = true
  rotate_left
  · rw [show tCompare t a b = (0, 5) from by unfold tCompare; rw [if_neg E]] at h1
    rcases tCompare t b c with ⟨r1, r2⟩
    rcases tCompare t a c with ⟨r3, r4⟩
    rcases tCompare t b a with ⟨r5, r6⟩
    subst ht0 ha0 hb0 hc0
    refine QCalls.of Try.func19 rfl (fun args w => Try.call19 args w) (Nat.le_of_ble_eq_true rfl) [(0, .c (encTy (.mk T ts))), (1, .c (encVl (.mk a1 a2 a3 a4 a5 a6 a7))), (2, .c (encVl (.mk b1 b2 b3 b4 b5 b6 b7))), (3, .c (encVl (.mk c1 c2 c3 c4 c5 c6 c7)))] rfl fun β hβ => ?_; have hf := Try.func19
    repeat' (first
      | refine AK.runP Try.hX Try.mixed 300 rfl ?_
      | refine AK.condTe rfl (by first | with_reducible assumption | (simp only [cond_true, cond_false, Bool.not_true, Bool.not_false, bne_self_eq_false, Int.reduceBNe, Int.reduceBEq]; first | done | with_reducible assumption)) ?_
      | refine AK.condFe rfl (by first | with_reducible assumption | (simp only [cond_true, cond_false, Bool.not_true, Bool.not_false, bne_self_eq_false, Int.reduceBNe, Int.reduceBEq]; first | done | with_reducible assumption)) ?_
      | (refine AK.condS rfl (fun h => ?_) (fun h => ?_) <;> first | (cases h; done) | rw [h] | skip)
      | refine AK.retQ Try.hX hf rfl rfl ?_
      | refine AK.retE Try.hX hf rfl rfl rfl rfl ?_ (by with_reducible rfl)
      | refine AK.retE Try.hX hf rfl rfl rfl rfl ?_ ?_
      | refine AK.endE Try.hX hf rfl rfl rfl rfl ?_ (by with_reducible rfl)
      | refine AK.endE Try.hX hf rfl rfl rfl rfl ?_ ?_
      | refine AK.region Try.mixed rfl ?_
      | refine AOps.done ?_
      | refine AOps.runS Try.hX kn rfl ?_
      | refine AOps.callq kn rfl rfl rfl rfl (h1) ?_
      | refine AOps.callq kn rfl rfl rfl rfl (h2) ?_
      | refine AOps.callq kn rfl rfl rfl rfl (h3) ?_
      | refine AOps.callq kn rfl rfl rfl rfl (h4) ?_
      | refine AOps.callq kn rfl rfl rfl rfl (h6) ?_
      | refine AOps.box kn rfl rfl rfl rfl rfl rfl ?_
      | refine AOps.alloc Try.hX kn rfl rfl rfl rfl rfl rfl rfl ?_
      | refine AOps.store Try.hX kn rfl rfl rfl rfl rfl rfl rfl rfl rfl rfl rfl ?_
      | refine AOps.buildSlice Try.hX kn rfl rfl rfl rfl rfl rfl rfl rfl rfl rfl rfl rfl ?_
      | refine AOps.append Try.hX kn rfl rfl rfl rfl rfl rfl rfl rfl rfl rfl rfl rfl rfl rfl rfl rfl rfl rfl rfl rfl rfl ?_ ?_
      | refine AOps.toStr Try.hX kn rfl rfl rfl rfl rfl rfl rfl rfl rfl rfl rfl (by first | exact rfl | exact byte1 _) rfl ?_
      | refine AOps.buildArr Try.hX kn rfl rfl rfl rfl rfl rfl rfl rfl ?_
      | refine AOps.indexArr Try.hX kn rfl rfl rfl rfl rfl rfl rfl rfl rfl rfl rfl rfl ?_
      | refine AOps.runP1 Try.hX kn rfl rfl ?_
      | (refine AOps.splitT rfl rfl rfl (by first | with_reducible assumption | (simp only [cond_true, cond_false, Bool.not_true, Bool.not_false, bne_self_eq_false, Int.reduceBNe, Int.reduceBEq]; first | done | with_reducible assumption)) (fun h => ?_) <;> (fail_if_success (cases h; done)) <;> rw [h])
      | (refine AOps.splitF rfl rfl rfl (by first | with_reducible assumption | (simp only [cond_true, cond_false, Bool.not_true, Bool.not_false, bne_self_eq_false, Int.reduceBNe, Int.reduceBEq]; first | done | with_reducible assumption)) (fun h => ?_) <;> (fail_if_success (cases h; done)) <;> rw [h])
      | (refine AOps.split rfl rfl rfl (fun h => ?_) (fun h => ?_) <;> (fail_if_success (cases h; done)) <;> rw [h])
      | refine AOps.drawn (by kernel_rfl) ?_)
    all_goals rfl
  by_cases F : tHas t c = true
  rotate_left
  · rw [show tCompare t a b = (vCmp a b, 0) from by unfold tCompare; rw [if_pos E]] at h1
    rw [show tCompare t b c = (0, 5) from by unfold tCompare; rw [if_neg (fun h => F h.2.1)]] at h2
    generalize vCmp a b = x at h1
    rcases tCompare t a c with ⟨r3, r4⟩
    rcases tCompare t b a with ⟨r5, r6⟩
    subst ht0 ha0 hb0 hc0
    refine QCalls.of Try.func19 rfl (fun args w => Try.call19 args w) (Nat.le_of_ble_eq_true rfl) [(0, .c (encTy (.mk T ts))), (1, .c (encVl (.mk a1 a2 a3 a4 a5 a6 a7))), (2, .c (encVl (.mk b1 b2 b3 b4 b5 b6 b7))), (3, .c (encVl (.mk c1 c2 c3 c4 c5 c6 c7)))] rfl fun β hβ => ?_; have hf := Try.func19
    repeat' (first
      | refine AK.runP Try.hX Try.mixed 300 rfl ?_
      | refine AK.condTe rfl (by first | with_reducible assumption | (simp only [cond_true, cond_false, Bool.not_true, Bool.not_false, bne_self_eq_false, Int.reduceBNe, Int.reduceBEq]; first | done | with_reducible assumption)) ?_
      | refine AK.condFe rfl (by first | with_reducible assumption | (simp only [cond_true, cond_false, Bool.not_true, Bool.not_false, bne_self_eq_false, Int.reduceBNe, Int.reduceBEq]; first | done | with_reducible assumption)) ?_
      | (refine AK.condS rfl (fun h => ?_) (fun h => ?_) <;> first | (cases h; done) | rw [h] | skip)
      | refine AK.retQ Try.hX hf rfl rfl ?_
      | refine AK.retE Try.hX hf rfl rfl rfl rfl ?_ (by with_reducible rfl)
      | refine AK.retE Try.hX hf rfl rfl rfl rfl ?_ ?_
      | refine AK.endE Try.hX hf rfl rfl rfl rfl ?_ (by with_reducible rfl)
      | refine AK.endE Try.hX hf rfl rfl rfl rfl ?_ ?_
      | refine AK.region Try.mixed rfl ?_
      | refine AOps.done ?_
      | refine AOps.runS Try.hX kn rfl ?_
      | refine AOps.callq kn rfl rfl rfl rfl (h1) ?_
      | refine AOps.callq kn rfl rfl rfl rfl (h2) ?_
      | refine AOps.callq kn rfl rfl rfl rfl (h3) ?_
      | refine AOps.callq kn rfl rfl rfl rfl (h4) ?_
      | refine AOps.callq kn rfl rfl rfl rfl (h6) ?_
      | refine AOps.box kn rfl rfl rfl rfl rfl rfl ?_
      | refine AOps.alloc Try.hX kn rfl rfl rfl rfl rfl rfl rfl ?_
      | refine AOps.store Try.hX kn rfl rfl rfl rfl rfl rfl rfl rfl rfl rfl rfl ?_
      | refine AOps.buildSlice Try.hX kn rfl rfl rfl rfl rfl rfl rfl rfl rfl rfl rfl rfl ?_
      | refine AOps.append Try.hX kn rfl rfl rfl rfl rfl rfl rfl rfl rfl rfl rfl rfl rfl rfl rfl rfl rfl rfl rfl rfl rfl ?_ ?_
      | refine AOps.toStr Try.hX kn rfl rfl rfl rfl rfl rfl rfl rfl rfl rfl rfl (by first | exact rfl | exact byte1 _) rfl ?_
      | refine AOps.buildArr Try.hX kn rfl rfl rfl rfl rfl rfl rfl rfl ?_
      | refine AOps.indexArr Try.hX kn rfl rfl rfl rfl rfl rfl rfl rfl rfl rfl rfl rfl ?_
      | refine AOps.runP1 Try.hX kn rfl rfl ?_
      | (refine AOps.splitT rfl rfl rfl (by first | with_reducible assumption | (simp only [cond_true, cond_false, Bool.not_true, Bool.not_false, bne_self_eq_false, Int.reduceBNe, Int.reduceBEq]; first | done | with_reducible assumption)) (fun h => ?_) <;> (fail_if_success (cases h; done)) <;> rw [h])
      | (refine AOps.splitF rfl rfl rfl (by first | with_reducible assumption | (simp only [cond_true, cond_false, Bool.not_true, Bool.not_false, bne_self_eq_false, Int.reduceBNe, Int.reduceBEq]; first | done | with_reducible assumption)) (fun h => ?_) <;> (fail_if_success (cases h; done)) <;> rw [h])
      | (refine AOps.split rfl rfl rfl (fun h => ?_) (fun h => ?_) <;> (fail_if_success (cases h; done)) <;> rw [h])
      | refine AOps.drawn (by kernel_rfl) ?_)
    all_goals rfl
  obtain ⟨Ea, Eb, Ec⟩ := E
  rw [show tCompare t a b = (vCmp a b, 0) from by unfold tCompare; rw [if_pos ⟨Ea, Eb, Ec⟩]] at h1
  rw [show tCompare t b c = (vCmp b c, 0) from by unfold tCompare; rw [if_pos ⟨Eb, F, Ec⟩]] at h2
  rw [show tCompare t a c = (vCmp a c, 0) from by unfold tCompare; rw [if_pos ⟨Ea, F, Ec⟩]] at h3
  rw [show tCompare t b a = (vCmp b a, 0) from by unfold tCompare; rw [if_pos ⟨Eb, Ea, Ec⟩]] at h4
  have ok := vCmp_ok a b c t Ec (tHas_of Ea).2.1 (tHas_of Ea).2.2 (tHas_of Eb).2.2 (tHas_of F).2.2
  have ok2 := vCmp_ok b c c t Ec (tHas_of Ea).2.1 (tHas_of Eb).2.2 (tHas_of F).2.2 (tHas_of F).2.2
  have ok3 := vCmp_ok a c c t Ec (tHas_of Ea).2.1 (tHas_of Ea).2.2 (tHas_of F).2.2 (tHas_of F).2.2
  have hs : vSame a b = (vCmp a b == 0) := by
    rw [Bool.eq_iff_iff, vSame_iff, ← ok.zero]; simp
  rw [hs] at h5
  have hu : vCmp b a = -vCmp a b := by have := ok.neg; omega
  rw [hu] at h4
  have hx : vCmp a b = -1 ∨ vCmp a b = 0 ∨ vCmp a b = 1 := by have := ok.lo; have := ok.hi; omega
  have hy : vCmp b c = -1 ∨ vCmp b c = 0 ∨ vCmp b c = 1 := by have := ok2.lo; have := ok2.hi; omega
  have hz : vCmp a b ≤ 0 → vCmp b c ≤ 0 → vCmp a c = if vCmp a b = 0 ∧ vCmp b c = 0 then 0 else -1 := by
    intro p q
    have h := ok.goes.1 p q
    have h' := ok3.lo
    split
    · rename_i e; exact h.2.2 e
    · rename_i e
      have : vCmp a c ≠ 0 := fun e' => e (h.2.1 e')
      have := h.1
      omega
  clear hs hu ok ok2 ok3
  generalize vCmp a b = x at *
  generalize vCmp b c = y at *
  generalize vCmp a c = z at *
  rcases hx with rfl | rfl | rfl
  · rcases hy with rfl | rfl | rfl
    · obtain rfl : z = -1 := by have := hz (by decide) (by decide); simpa using this
      clear hz
      subst ht0 ha0 hb0 hc0
      refine QCalls.of Try.func19 rfl (fun args w => Try.call19 args w) (Nat.le_of_ble_eq_true rfl) [(0, .c (encTy (.mk T ts))), (1, .c (encVl (.mk a1 a2 a3 a4 a5 a6 a7))), (2, .c (encVl (.mk b1 b2 b3 b4 b5 b6 b7))), (3, .c (encVl (.mk c1 c2 c3 c4 c5 c6 c7)))] rfl fun β hβ => ?_; have hf := Try.func19
      repeat' (first
        | refine AK.runP Try.hX Try.mixed 300 rfl ?_
        | refine AK.condTe rfl (by first | with_reducible assumption | (simp only [cond_true, cond_false, Bool.not_true, Bool.not_false, bne_self_eq_false, Int.reduceBNe, Int.reduceBEq]; first | done | with_reducible assumption)) ?_
        | refine AK.condFe rfl (by first | with_reducible assumption | (simp only [cond_true, cond_false, Bool.not_true, Bool.not_false, bne_self_eq_false, Int.reduceBNe, Int.reduceBEq]; first | done | with_reducible assumption)) ?_
        | (refine AK.condS rfl (fun h => ?_) (fun h => ?_) <;> first | (cases h; done) | rw [h] | skip)
        | refine AK.retQ Try.hX hf rfl rfl ?_
        | refine AK.retE Try.hX hf rfl rfl rfl rfl ?_ (by with_reducible rfl)
        | refine AK.retE Try.hX hf rfl rfl rfl rfl ?_ ?_
        | refine AK.endE Try.hX hf rfl rfl rfl rfl ?_ (by with_reducible rfl)
        | refine AK.endE Try.hX hf rfl rfl rfl rfl ?_ ?_
        | refine AK.region Try.mixed rfl ?_
        | refine AOps.done ?_
        | refine AOps.runS Try.hX kn rfl ?_
        | refine AOps.callq kn rfl rfl rfl rfl (h1) ?_
        | refine AOps.callq kn rfl rfl rfl rfl (h2) ?_
        | refine AOps.callq kn rfl rfl rfl rfl (h3) ?_
        | refine AOps.callq kn rfl rfl rfl rfl (h4) ?_
        | refine AOps.callq kn rfl rfl rfl rfl (h5) ?_
        | refine AOps.callq kn rfl rfl rfl rfl (h6) ?_
        | refine AOps.box kn rfl rfl rfl rfl rfl rfl ?_
        | refine AOps.alloc Try.hX kn rfl rfl rfl rfl rfl rfl rfl ?_
        | refine AOps.store Try.hX kn rfl rfl rfl rfl rfl rfl rfl rfl rfl rfl rfl ?_
        | refine AOps.buildSlice Try.hX kn rfl rfl rfl rfl rfl rfl rfl rfl rfl rfl rfl rfl ?_
        | refine AOps.append Try.hX kn rfl rfl rfl rfl rfl rfl rfl rfl rfl rfl rfl rfl rfl rfl rfl rfl rfl rfl rfl rfl rfl ?_ ?_
        | refine AOps.toStr Try.hX kn rfl rfl rfl rfl rfl rfl rfl rfl rfl rfl rfl (by first | exact rfl | exact byte1 _) rfl ?_
        | refine AOps.buildArr Try.hX kn rfl rfl rfl rfl rfl rfl rfl rfl ?_
        | refine AOps.indexArr Try.hX kn rfl rfl rfl rfl rfl rfl rfl rfl rfl rfl rfl rfl ?_
        | refine AOps.runP1 Try.hX kn rfl rfl ?_
        | (refine AOps.splitT rfl rfl rfl (by first | with_reducible assumption | (simp only [cond_true, cond_false, Bool.not_true, Bool.not_false, bne_self_eq_false, Int.reduceBNe, Int.reduceBEq]; first | done | with_reducible assumption)) (fun h => ?_) <;> (fail_if_success (cases h; done)) <;> rw [h])
        | (refine AOps.splitF rfl rfl rfl (by first | with_reducible assumption | (simp only [cond_true, cond_false, Bool.not_true, Bool.not_false, bne_self_eq_false, Int.reduceBNe, Int.reduceBEq]; first | done | with_reducible assumption)) (fun h => ?_) <;> (fail_if_success (cases h; done)) <;> rw [h])
        | (refine AOps.split rfl rfl rfl (fun h => ?_) (fun h => ?_) <;> (fail_if_success (cases h; done)) <;> rw [h])
        | refine AOps.drawn (by kernel_rfl) ?_)
      all_goals rfl
    · obtain rfl : z = -1 := by have := hz (by decide) (by decide); simpa using this
      clear hz
      subst ht0 ha0 hb0 hc0
      refine QCalls.of Try.func19 rfl (fun args w => Try.call19 args w) (Nat.le_of_ble_eq_true rfl) [(0, .c (encTy (.mk T ts))), (1, .c (encVl (.mk a1 a2 a3 a4 a5 a6 a7))), (2, .c (encVl (.mk b1 b2 b3 b4 b5 b6 b7))), (3, .c (encVl (.mk c1 c2 c3 c4 c5 c6 c7)))] rfl fun β hβ => ?_; have hf := Try.func19
      repeat' (first
        | refine AK.runP Try.hX Try.mixed 300 rfl ?_
        | refine AK.condTe rfl (by first | with_reducible assumption | (simp only [cond_true, cond_false, Bool.not_true, Bool.not_false, bne_self_eq_false, Int.reduceBNe, Int.reduceBEq]; first | done | with_reducible assumption)) ?_
        | refine AK.condFe rfl (by first | with_reducible assumption | (simp only [cond_true, cond_false, Bool.not_true, Bool.not_false, bne_self_eq_false, Int.reduceBNe, Int.reduceBEq]; first | done | with_reducible assumption)) ?_
        | (refine AK.condS rfl (fun h => ?_) (fun h => ?_) <;> first | (cases h; done) | rw [h] | skip)
        | refine AK.retQ Try.hX hf rfl rfl ?_
        | refine AK.retE Try.hX hf rfl rfl rfl rfl ?_ (by with_reducible rfl)
        | refine AK.retE Try.hX hf rfl rfl rfl rfl ?_ ?_
        | refine AK.endE Try.hX hf rfl rfl rfl rfl ?_ (by with_reducible rfl)
        | refine AK.endE Try.hX hf rfl rfl rfl rfl ?_ ?_
        | refine AK.region Try.mixed rfl ?_
        | refine AOps.done ?_
        | refine AOps.runS Try.hX kn rfl ?_
        | refine AOps.callq kn rfl rfl rfl rfl (h1) ?_
        | refine AOps.callq kn rfl rfl rfl rfl (h2) ?_
        | refine AOps.callq kn rfl rfl rfl rfl (h3) ?_
        | refine AOps.callq kn rfl rfl rfl rfl (h4) ?_
        | refine AOps.callq kn rfl rfl rfl rfl (h5) ?_
        | refine AOps.callq kn rfl rfl rfl rfl (h6) ?_
        | refine AOps.box kn rfl rfl rfl rfl rfl rfl ?_
        | refine AOps.alloc Try.hX kn rfl rfl rfl rfl rfl rfl rfl ?_
        | refine AOps.store Try.hX kn rfl rfl rfl rfl rfl rfl rfl rfl rfl rfl rfl ?_
        | refine AOps.buildSlice Try.hX kn rfl rfl rfl rfl rfl rfl rfl rfl rfl rfl rfl rfl ?_
        | refine AOps.append Try.hX kn rfl rfl rfl rfl rfl rfl rfl rfl rfl rfl rfl rfl rfl rfl rfl rfl rfl rfl rfl rfl rfl ?_ ?_
        | refine AOps.toStr Try.hX kn rfl rfl rfl rfl rfl rfl rfl rfl rfl rfl rfl (by first | exact rfl | exact byte1 _) rfl ?_
        | refine AOps.buildArr Try.hX kn rfl rfl rfl rfl rfl rfl rfl rfl ?_
        | refine AOps.indexArr Try.hX kn rfl rfl rfl rfl rfl rfl rfl rfl rfl rfl rfl rfl ?_
        | refine AOps.runP1 Try.hX kn rfl rfl ?_
        | (refine AOps.splitT rfl rfl rfl (by first | with_reducible assumption | (simp only [cond_true, cond_false, Bool.not_true, Bool.not_false, bne_self_eq_false, Int.reduceBNe, Int.reduceBEq]; first | done | with_reducible assumption)) (fun h => ?_) <;> (fail_if_success (cases h; done)) <;> rw [h])
        | (refine AOps.splitF rfl rfl rfl (by first | with_reducible assumption | (simp only [cond_true, cond_false, Bool.not_true, Bool.not_false, bne_self_eq_false, Int.reduceBNe, Int.reduceBEq]; first | done | with_reducible assumption)) (fun h => ?_) <;> (fail_if_success (cases h; done)) <;> rw [h])
        | (refine AOps.split rfl rfl rfl (fun h => ?_) (fun h => ?_) <;> (fail_if_success (cases h; done)) <;> rw [h])
        | refine AOps.drawn (by kernel_rfl) ?_)
      all_goals rfl
    · clear hz
      subst ht0 ha0 hb0 hc0
      refine QCalls.of Try.func19 rfl (fun args w => Try.call19 args w) (Nat.le_of_ble_eq_true rfl) [(0, .c (encTy (.mk T ts))), (1, .c (encVl (.mk a1 a2 a3 a4 a5 a6 a7))), (2, .c (encVl (.mk b1 b2 b3 b4 b5 b6 b7))), (3, .c (encVl (.mk c1 c2 c3 c4 c5 c6 c7)))] rfl fun β hβ => ?_; have hf := Try.func19
      repeat' (first
        | refine AK.runP Try.hX Try.mixed 300 rfl ?_
        | refine AK.condTe rfl (by first | with_reducible assumption | (simp only [cond_true, cond_false, Bool.not_true, Bool.not_false, bne_self_eq_false, Int.reduceBNe, Int.reduceBEq]; first | done | with_reducible assumption)) ?_
        | refine AK.condFe rfl (by first | with_reducible assumption | (simp only [cond_true, cond_false, Bool.not_true, Bool.not_false, bne_self_eq_false, Int.reduceBNe, Int.reduceBEq]; first | done | with_reducible assumption)) ?_
        | (refine AK.condS rfl (fun h => ?_) (fun h => ?_) <;> first | (cases h; done) | rw [h] | skip)
        | refine AK.retQ Try.hX hf rfl rfl ?_
        | refine AK.retE Try.hX hf rfl rfl rfl rfl ?_ (by with_reducible rfl)
        | refine AK.retE Try.hX hf rfl rfl rfl rfl ?_ ?_
        | refine AK.endE Try.hX hf rfl rfl rfl rfl ?_ (by with_reducible rfl)
        | refine AK.endE Try.hX hf rfl rfl rfl rfl ?_ ?_
        | refine AK.region Try.mixed rfl ?_
        | refine AOps.done ?_
        | refine AOps.runS Try.hX kn rfl ?_
        | refine AOps.callq kn rfl rfl rfl rfl (h1) ?_
        | refine AOps.callq kn rfl rfl rfl rfl (h2) ?_
        | refine AOps.callq kn rfl rfl rfl rfl (h3) ?_
        | refine AOps.callq kn rfl rfl rfl rfl (h4) ?_
        | refine AOps.callq kn rfl rfl rfl rfl (h5) ?_
        | refine AOps.callq kn rfl rfl rfl rfl (h6) ?_
        | refine AOps.box kn rfl rfl rfl rfl rfl rfl ?_
        | refine AOps.alloc Try.hX kn rfl rfl rfl rfl rfl rfl rfl ?_
        | refine AOps.store Try.hX kn rfl rfl rfl rfl rfl rfl rfl rfl rfl rfl rfl ?_
        | refine AOps.buildSlice Try.hX kn rfl rfl rfl rfl rfl rfl rfl rfl rfl rfl rfl rfl ?_
        | refine AOps.append Try.hX kn rfl rfl rfl rfl rfl rfl rfl rfl rfl rfl rfl rfl rfl rfl rfl rfl rfl rfl rfl rfl rfl ?_ ?_
        | refine AOps.toStr Try.hX kn rfl rfl rfl rfl rfl rfl rfl rfl rfl rfl rfl (by first | exact rfl | exact byte1 _) rfl ?_
        | refine AOps.buildArr Try.hX kn rfl rfl rfl rfl rfl rfl rfl rfl ?_
        | refine AOps.indexArr Try.hX kn rfl rfl rfl rfl rfl rfl rfl rfl rfl rfl rfl rfl ?_
        | refine AOps.runP1 Try.hX kn rfl rfl ?_
        | (refine AOps.splitT rfl rfl rfl (by first | with_reducible assumption | (simp only [cond_true, cond_false, Bool.not_true, Bool.not_false, bne_self_eq_false, Int.reduceBNe, Int.reduceBEq]; first | done | with_reducible assumption)) (fun h => ?_) <;> (fail_if_success (cases h; done)) <;> rw [h])
        | (refine AOps.splitF rfl rfl rfl (by first | with_reducible assumption | (simp only [cond_true, cond_false, Bool.not_true, Bool.not_false, bne_self_eq_false, Int.reduceBNe, Int.reduceBEq]; first | done | with_reducible assumption)) (fun h => ?_) <;> (fail_if_success (cases h; done)) <;> rw [h])
        | (refine AOps.split rfl rfl rfl (fun h => ?_) (fun h => ?_) <;> (fail_if_success (cases h; done)) <;> rw [h])
        | refine AOps.drawn (by kernel_rfl) ?_)
      all_goals rfl
  · rcases hy with rfl | rfl | rfl
    · obtain rfl : z = -1 := by have := hz (by decide) (by decide); simpa using this
      clear hz
      subst ht0 ha0 hb0 hc0
      refine QCalls.of Try.func19 rfl (fun args w => Try.call19 args w) (Nat.le_of_ble_eq_true rfl) [(0, .c (encTy (.mk T ts))), (1, .c (encVl (.mk a1 a2 a3 a4 a5 a6 a7))), (2, .c (encVl (.mk b1 b2 b3 b4 b5 b6 b7))), (3, .c (encVl (.mk c1 c2 c3 c4 c5 c6 c7)))] rfl fun β hβ => ?_; have hf := Try.func19
      repeat' (first
        | refine AK.runP Try.hX Try.mixed 300 rfl ?_
        | refine AK.condTe rfl (by first | with_reducible assumption | (simp only [cond_true, cond_false, Bool.not_true, Bool.not_false, bne_self_eq_false, Int.reduceBNe, Int.reduceBEq]; first | done | with_reducible assumption)) ?_
        | refine AK.condFe rfl (by first | with_reducible assumption | (simp only [cond_true, cond_false, Bool.not_true, Bool.not_false, bne_self_eq_false, Int.reduceBNe, Int.reduceBEq]; first | done | with_reducible assumption)) ?_
        | (refine AK.condS rfl (fun h => ?_) (fun h => ?_) <;> first | (cases h; done) | rw [h] | skip)
        | refine AK.retQ Try.hX hf rfl rfl ?_
        | refine AK.retE Try.hX hf rfl rfl rfl rfl ?_ (by with_reducible rfl)
        | refine AK.retE Try.hX hf rfl rfl rfl rfl ?_ ?_
        | refine AK.endE Try.hX hf rfl rfl rfl rfl ?_ (by with_reducible rfl)
        | refine AK.endE Try.hX hf rfl rfl rfl rfl ?_ ?_
        | refine AK.region Try.mixed rfl ?_
        | refine AOps.done ?_
        | refine AOps.runS Try.hX kn rfl ?_
        | refine AOps.callq kn rfl rfl rfl rfl (h1) ?_
        | refine AOps.callq kn rfl rfl rfl rfl (h2) ?_
        | refine AOps.callq kn rfl rfl rfl rfl (h3) ?_
        | refine AOps.callq kn rfl rfl rfl rfl (h4) ?_
        | refine AOps.callq kn rfl rfl rfl rfl (h5) ?_
        | refine AOps.callq kn rfl rfl rfl rfl (h6) ?_
        | refine AOps.box kn rfl rfl rfl rfl rfl rfl ?_
        | refine AOps.alloc Try.hX kn rfl rfl rfl rfl rfl rfl rfl ?_
        | refine AOps.store Try.hX kn rfl rfl rfl rfl rfl rfl rfl rfl rfl rfl rfl ?_
        | refine AOps.buildSlice Try.hX kn rfl rfl rfl rfl rfl rfl rfl rfl rfl rfl rfl rfl ?_
        | refine AOps.append Try.hX kn rfl rfl rfl rfl rfl rfl rfl rfl rfl rfl rfl rfl rfl rfl rfl rfl rfl rfl rfl rfl rfl ?_ ?_
        | refine AOps.toStr Try.hX kn rfl rfl rfl rfl rfl rfl rfl rfl rfl rfl rfl (by first | exact rfl | exact byte1 _) rfl ?_
        | refine AOps.buildArr Try.hX kn rfl rfl rfl rfl rfl rfl rfl rfl ?_
        | refine AOps.indexArr Try.hX kn rfl rfl rfl rfl rfl rfl rfl rfl rfl rfl rfl rfl ?_
        | refine AOps.runP1 Try.hX kn rfl rfl ?_
        | (refine AOps.splitT rfl rfl rfl (by first | with_reducible assumption | (simp only [cond_true, cond_false, Bool.not_true, Bool.not_false, bne_self_eq_false, Int.reduceBNe, Int.reduceBEq]; first | done | with_reducible assumption)) (fun h => ?_) <;> (fail_if_success (cases h; done)) <;> rw [h])
        | (refine AOps.splitF rfl rfl rfl (by first | with_reducible assumption | (simp only [cond_true, cond_false, Bool.not_true, Bool.not_false, bne_self_eq_false, Int.reduceBNe, Int.reduceBEq]; first | done | with_reducible assumption)) (fun h => ?_) <;> (fail_if_success (cases h; done)) <;> rw [h])
        | (refine AOps.split rfl rfl rfl (fun h => ?_) (fun h => ?_) <;> (fail_if_success (cases h; done)) <;> rw [h])
        | refine AOps.drawn (by kernel_rfl) ?_)
      all_goals rfl
    · obtain rfl : z = 0 := by have := hz (by decide) (by decide); simpa using this
      clear hz
      subst ht0 ha0 hb0 hc0
      refine QCalls.of Try.func19 rfl (fun args w => Try.call19 args w) (Nat.le_of_ble_eq_true rfl) [(0, .c (encTy (.mk T ts))), (1, .c (encVl (.mk a1 a2 a3 a4 a5 a6 a7))), (2, .c (encVl (.mk b1 b2 b3 b4 b5 b6 b7))), (3, .c (encVl (.mk c1 c2 c3 c4 c5 c6 c7)))] rfl fun β hβ => ?_; have hf := Try.func19
      repeat' (first
        | refine AK.runP Try.hX Try.mixed 300 rfl ?_
        | refine AK.condTe rfl (by first | with_reducible assumption | (simp only [cond_true, cond_false, Bool.not_true, Bool.not_false, bne_self_eq_false, Int.reduceBNe, Int.reduceBEq]; first | done | with_reducible assumption)) ?_
        | refine AK.condFe rfl (by first | with_reducible assumption | (simp only [cond_true, cond_false, Bool.not_true, Bool.not_false, bne_self_eq_false, Int.reduceBNe, Int.reduceBEq]; first | done | with_reducible assumption)) ?_
        | (refine AK.condS rfl (fun h => ?_) (fun h => ?_) <;> first | (cases h; done) | rw [h] | skip)
        | refine AK.retQ Try.hX hf rfl rfl ?_
        | refine AK.retE Try.hX hf rfl rfl rfl rfl ?_ (by with_reducible rfl)
        | refine AK.retE Try.hX hf rfl rfl rfl rfl ?_ ?_
        | refine AK.endE Try.hX hf rfl rfl rfl rfl ?_ (by with_reducible rfl)
        | refine AK.endE Try.hX hf rfl rfl rfl rfl ?_ ?_
        | refine AK.region Try.mixed rfl ?_
        | refine AOps.done ?_
        | refine AOps.runS Try.hX kn rfl ?_
        | refine AOps.callq kn rfl rfl rfl rfl (h1) ?_
        | refine AOps.callq kn rfl rfl rfl rfl (h2) ?_
        | refine AOps.callq kn rfl rfl rfl rfl (h3) ?_
        | refine AOps.callq kn rfl rfl rfl rfl (h4) ?_
        | refine AOps.callq kn rfl rfl rfl rfl (h5) ?_
        | refine AOps.callq kn rfl rfl rfl rfl (h6) ?_
        | refine AOps.box kn rfl rfl rfl rfl rfl rfl ?_
        | refine AOps.alloc Try.hX kn rfl rfl rfl rfl rfl rfl rfl ?_
        | refine AOps.store Try.hX kn rfl rfl rfl rfl rfl rfl rfl rfl rfl rfl rfl ?_
        | refine AOps.buildSlice Try.hX kn rfl rfl rfl rfl rfl rfl rfl rfl rfl rfl rfl rfl ?_
        | refine AOps.append Try.hX kn rfl rfl rfl rfl rfl rfl rfl rfl rfl rfl rfl rfl rfl rfl rfl rfl rfl rfl rfl rfl rfl ?_ ?_
        | refine AOps.toStr Try.hX kn rfl rfl rfl rfl rfl rfl rfl rfl rfl rfl rfl (by first | exact rfl | exact byte1 _) rfl ?_
        | refine AOps.buildArr Try.hX kn rfl rfl rfl rfl rfl rfl rfl rfl ?_
        | refine AOps.indexArr Try.hX kn rfl rfl rfl rfl rfl rfl rfl rfl rfl rfl rfl rfl ?_
        | refine AOps.runP1 Try.hX kn rfl rfl ?_
        | (refine AOps.splitT rfl rfl rfl (by first | with_reducible assumption | (simp only [cond_true, cond_false, Bool.not_true, Bool.not_false, bne_self_eq_false, Int.reduceBNe, Int.reduceBEq]; first | done | with_reducible assumption)) (fun h => ?_) <;> (fail_if_success (cases h; done)) <;> rw [h])
        | (refine AOps.splitF rfl rfl rfl (by first | with_reducible assumption | (simp only [cond_true, cond_false, Bool.not_true, Bool.not_false, bne_self_eq_false, Int.reduceBNe, Int.reduceBEq]; first | done | with_reducible assumption)) (fun h => ?_) <;> (fail_if_success (cases h; done)) <;> rw [h])
        | (refine AOps.split rfl rfl rfl (fun h => ?_) (fun h => ?_) <;> (fail_if_success (cases h; done)) <;> rw [h])
        | refine AOps.drawn (by kernel_rfl) ?_)
      all_goals rfl
    · clear hz
      subst ht0 ha0 hb0 hc0
      refine QCalls.of Try.func19 rfl (fun args w => Try.call19 args w) (Nat.le_of_ble_eq_true rfl) [(0, .c (encTy (.mk T ts))), (1, .c (encVl (.mk a1 a2 a3 a4 a5 a6 a7))), (2, .c (encVl (.mk b1 b2 b3 b4 b5 b6 b7))), (3, .c (encVl (.mk c1 c2 c3 c4 c5 c6 c7)))] rfl fun β hβ => ?_; have hf := Try.func19
      repeat' (first
        | refine AK.runP Try.hX Try.mixed 300 rfl ?_
        | refine AK.condTe rfl (by first | with_reducible assumption | (simp only [cond_true, cond_false, Bool.not_true, Bool.not_false, bne_self_eq_false, Int.reduceBNe, Int.reduceBEq]; first | done | with_reducible assumption)) ?_
        | refine AK.condFe rfl (by first | with_reducible assumption | (simp only [cond_true, cond_false, Bool.not_true, Bool.not_false, bne_self_eq_false, Int.reduceBNe, Int.reduceBEq]; first | done | with_reducible assumption)) ?_
        | (refine AK.condS rfl (fun h => ?_) (fun h => ?_) <;> first | (cases h; done) | rw [h] | skip)
        | refine AK.retQ Try.hX hf rfl rfl ?_
        | refine AK.retE Try.hX hf rfl rfl rfl rfl ?_ (by with_reducible rfl)
        | refine AK.retE Try.hX hf rfl rfl rfl rfl ?_ ?_
        | refine AK.endE Try.hX hf rfl rfl rfl rfl ?_ (by with_reducible rfl)
        | refine AK.endE Try.hX hf rfl rfl rfl rfl ?_ ?_
        | refine AK.region Try.mixed rfl ?_
        | refine AOps.done ?_
        | refine AOps.runS Try.hX kn rfl ?_
        | refine AOps.callq kn rfl rfl rfl rfl (h1) ?_
        | refine AOps.callq kn rfl rfl rfl rfl (h2) ?_
        | refine AOps.callq kn rfl rfl rfl rfl (h3) ?_
        | refine AOps.callq kn rfl rfl rfl rfl (h4) ?_
        | refine AOps.callq kn rfl rfl rfl rfl (h5) ?_
        | refine AOps.callq kn rfl rfl rfl rfl (h6) ?_
        | refine AOps.box kn rfl rfl rfl rfl rfl rfl ?_
        | refine AOps.alloc Try.hX kn rfl rfl rfl rfl rfl rfl rfl ?_
        | refine AOps.store Try.hX kn rfl rfl rfl rfl rfl rfl rfl rfl rfl rfl rfl ?_
        | refine AOps.buildSlice Try.hX kn rfl rfl rfl rfl rfl rfl rfl rfl rfl rfl rfl rfl ?_
        | refine AOps.append Try.hX kn rfl rfl rfl rfl rfl rfl rfl rfl rfl rfl rfl rfl rfl rfl rfl rfl rfl rfl rfl rfl rfl ?_ ?_
        | refine AOps.toStr Try.hX kn rfl rfl rfl rfl rfl rfl rfl rfl rfl rfl rfl (by first | exact rfl | exact byte1 _) rfl ?_
        | refine AOps.buildArr Try.hX kn rfl rfl rfl rfl rfl rfl rfl rfl ?_
        | refine AOps.indexArr Try.hX kn rfl rfl rfl rfl rfl rfl rfl rfl rfl rfl rfl rfl ?_
        | refine AOps.runP1 Try.hX kn rfl rfl ?_
        | (refine AOps.splitT rfl rfl rfl (by first | with_reducible assumption | (simp only [cond_true, cond_false, Bool.not_true, Bool.not_false, bne_self_eq_false, Int.reduceBNe, Int.reduceBEq]; first | done | with_reducible assumption)) (fun h => ?_) <;> (fail_if_success (cases h; done)) <;> rw [h])
        | (refine AOps.splitF rfl rfl rfl (by first | with_reducible assumption | (simp only [cond_true, cond_false, Bool.not_true, Bool.not_false, bne_self_eq_false, Int.reduceBNe, Int.reduceBEq]; first | done | with_reducible assumption)) (fun h => ?_) <;> (fail_if_success (cases h; done)) <;> rw [h])
        | (refine AOps.split rfl rfl rfl (fun h => ?_) (fun h => ?_) <;> (fail_if_success (cases h; done)) <;> rw [h])
        | refine AOps.drawn (by kernel_rfl) ?_)
      all_goals rfl
  · clear hz hy
    subst ht0 ha0 hb0 hc0
    refine QCalls.of Try.func19 rfl (fun args w => Try.call19 args w) (Nat.le_of_ble_eq_true rfl) [(0, .c (encTy (.mk T ts))), (1, .c (encVl (.mk a1 a2 a3 a4 a5 a6 a7))), (2, .c (encVl (.mk b1 b2 b3 b4 b5 b6 b7))), (3, .c (encVl (.mk c1 c2 c3 c4 c5 c6 c7)))] rfl fun β hβ => ?_; have hf := Try.func19
    repeat' (first
      | refine AK.runP Try.hX Try.mixed 300 rfl ?_
      | refine AK.condTe rfl (by first | with_reducible assumption | (simp only [cond_true, cond_false, Bool.not_true, Bool.not_false, bne_self_eq_false, Int.reduceBNe, Int.reduceBEq]; first | done | with_reducible assumption)) ?_
      | refine AK.condFe rfl (by first | with_reducible assumption | (simp only [cond_true, cond_false, Bool.not_true, Bool.not_false, bne_self_eq_false, Int.reduceBNe, Int.reduceBEq]; first | done | with_reducible assumption)) ?_
      | (refine AK.condS rfl (fun h => ?_) (fun h => ?_) <;> first | (cases h; done) | rw [h] | skip)
      | refine AK.retQ Try.hX hf rfl rfl ?_
      | refine AK.retE Try.hX hf rfl rfl rfl rfl ?_ (by with_reducible rfl)
      | refine AK.retE Try.hX hf rfl rfl rfl rfl ?_ ?_
      | refine AK.endE Try.hX hf rfl rfl rfl rfl ?_ (by with_reducible rfl)
      | refine AK.endE Try.hX hf rfl rfl rfl rfl ?_ ?_
      | refine AK.region Try.mixed rfl ?_
      | refine AOps.done ?_
      | refine AOps.runS Try.hX kn rfl ?_
      | refine AOps.callq kn rfl rfl rfl rfl (h1) ?_
      | refine AOps.callq kn rfl rfl rfl rfl (h2) ?_
      | refine AOps.callq kn rfl rfl rfl rfl (h3) ?_
      | refine AOps.callq kn rfl rfl rfl rfl (h4) ?_
      | refine AOps.callq kn rfl rfl rfl rfl (h5) ?_
      | refine AOps.callq kn rfl rfl rfl rfl (h6) ?_
      | refine AOps.box kn rfl rfl rfl rfl rfl rfl ?_
      | refine AOps.alloc Try.hX kn rfl rfl rfl rfl rfl rfl rfl ?_
      | refine AOps.store Try.hX kn rfl rfl rfl rfl rfl rfl rfl rfl rfl rfl rfl ?_
      | refine AOps.buildSlice Try.hX kn rfl rfl rfl rfl rfl rfl rfl rfl rfl rfl rfl rfl ?_
      | refine AOps.append Try.hX kn rfl rfl rfl rfl rfl rfl rfl rfl rfl rfl rfl rfl rfl rfl rfl rfl rfl rfl rfl rfl rfl ?_ ?_
      | refine AOps.toStr Try.hX kn rfl rfl rfl rfl rfl rfl rfl rfl rfl rfl rfl (by first | exact rfl | exact byte1 _) rfl ?_
      | refine AOps.buildArr Try.hX kn rfl rfl rfl rfl rfl rfl rfl rfl ?_
      | refine AOps.indexArr Try.hX kn rfl rfl rfl rfl rfl rfl rfl rfl rfl rfl rfl rfl ?_
      | refine AOps.runP1 Try.hX kn rfl rfl ?_
      | (refine AOps.splitT rfl rfl rfl (by first | with_reducible assumption | (simp only [cond_true, cond_false, Bool.not_true, Bool.not_false, bne_self_eq_false, Int.reduceBNe, Int.reduceBEq]; first | done | with_reducible assumption)) (fun h => ?_) <;> (fail_if_success (cases h; done)) <;> rw [h])
      | (refine AOps.splitF rfl rfl rfl (by first | with_reducible assumption | (simp only [cond_true, cond_false, Bool.not_true, Bool.not_false, bne_self_eq_false, Int.reduceBNe, Int.reduceBEq]; first | done | with_reducible assumption)) (fun h => ?_) <;> (fail_if_success (cases h; done)) <;> rw [h])
      | (refine AOps.split rfl rfl rfl (fun h => ?_) (fun h => ?_) <;> (fail_if_success (cases h; done)) <;> rw [h])
      | refine AOps.drawn (by kernel_rfl) ?_)
    all_goals rfl
end Go.Proofs
