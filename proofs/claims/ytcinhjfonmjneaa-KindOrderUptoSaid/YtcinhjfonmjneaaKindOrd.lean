/- What touchstonekeep.KindOrder answers: true, for every type. -/
import Derived.Test.YtcinhjfonmjneaaKind8
set_option linter.unusedVariables false
set_option linter.unusedSimpArgs false
namespace Go.Proofs
open Go.Abs

mutual
theorem comp_pack : ∀ (t : Ty), tall compP t = true → tall packP t = true
  | .mk T args, h => by
    simp only [tall, Bool.and_eq_true] at h ⊢
    refine ⟨?_, comps_packs args h.2⟩
    have := h.1
    simp [compP] at this
    simp [packP, this]
theorem comps_packs : ∀ (l : List Ty), talls compP l = true → talls packP l = true
  | [], _ => rfl
  | t :: l, h => by
    simp only [talls, Bool.and_eq_true] at h ⊢
    exact ⟨comp_pack t h.1, comps_packs l h.2⟩
end
mutual
theorem pack_none (p : Int → Bool) (hp : ∀ T, packP T = true → p T = true) : ∀ (t : Ty), tall packP t = true → tNone p t = true
  | .mk T args, h => by
    simp only [tall, Bool.and_eq_true] at h
    simp only [tNone]
    split
    · rfl
    · simp [hp T h.1, packs_nones p hp args h.2]
theorem packs_nones (p : Int → Bool) (hp : ∀ T, packP T = true → p T = true) : ∀ (l : List Ty), talls packP l = true → tNones p l = true
  | [], _ => rfl
  | t :: l, h => by
    simp only [talls, Bool.and_eq_true] at h
    simp [tNones, pack_none p hp t h.1, packs_nones p hp l h.2]
end
theorem packP_copy (T : Int) (h : packP T = true) : copyP T = true := by simp [packP] at h; simp [copyP, h]
theorem packP_store (T : Int) (h : packP T = true) : storeP T = true := by simp [packP] at h; simp [storeP, h]

attribute [local irreducible] AK AOps QCalls ECalls tGood tComp tPack tCopy tStore

theorem KindOrder_calls (t : Ty) (hw : tyWf t) (ht : tySize t ≤ 1048576) : QCalls Try.prog Try.X 10 [encTy t] (.bool true) := by
  have h1 := Good_calls t (by omega)
  have h2 := Comparable_calls t (by omega)
  have h3 := Packed_calls t (by omega)
  have h4 := Copied_calls t (by omega)
  have h5 := Stored_calls t (by omega)
  have f1 : tComp t = true → tPack t = true := by unfold tComp tPack; exact comp_pack t
  have f2 : tPack t = true → tCopy t = true := by unfold tPack tCopy; exact pack_none _ packP_copy t
  have f3 : tPack t = true → tStore t = true := by unfold tPack tStore; exact pack_none _ packP_store t
  obtain ⟨T, args⟩ := t
  refine QCalls.of Try.func10 rfl (fun args w => Try.call10 args w) (Nat.le_of_ble_eq_true rfl) [(0, .c (encTy (.mk T args)))] rfl fun β hβ => ?_; have hf := Try.func10
  repeat' (first
    | refine AK.runP Try.hX Try.mixed 300 rfl ?_
    | refine AK.condTe rfl (by with_reducible assumption) ?_
    | refine AK.condFe rfl (by with_reducible assumption) ?_
    | (refine AK.condS rfl (fun h => ?_) (fun h => ?_) <;> first | (cases h; done) | rw [h] | skip)
    | refine AK.retQ Try.hX hf rfl rfl ?_
    | refine AK.retE Try.hX hf rfl rfl rfl rfl ?_ (by with_reducible rfl)
    | refine AK.retE Try.hX hf rfl rfl rfl rfl ?_ ?_
    | refine AK.region Try.mixed rfl ?_
    | refine AOps.done ?_
    | refine AOps.runS Try.hX kn rfl ?_
    | refine AOps.callq kn rfl rfl rfl rfl (h1) ?_
    | refine AOps.callq kn rfl rfl rfl rfl (h2) ?_
    | refine AOps.callq kn rfl rfl rfl rfl (h3) ?_
    | refine AOps.callq kn rfl rfl rfl rfl (h4) ?_
    | refine AOps.callq kn rfl rfl rfl rfl (h5) ?_
    | refine AOps.callq kn rfl rfl rfl rfl (namesK_calls) ?_
    | refine AOps.box kn rfl rfl rfl rfl rfl rfl ?_
    | refine AOps.alloc Try.hX kn rfl rfl rfl rfl rfl rfl rfl ?_
    | refine AOps.store Try.hX kn rfl rfl rfl rfl rfl rfl rfl rfl rfl rfl rfl ?_
    | refine AOps.buildSlice Try.hX kn rfl rfl rfl rfl rfl rfl rfl rfl rfl rfl rfl rfl ?_
    | refine AOps.append Try.hX kn rfl rfl rfl rfl rfl rfl rfl rfl rfl rfl rfl rfl rfl rfl rfl rfl rfl rfl rfl rfl rfl ?_ ?_
    | refine AOps.toStr Try.hX kn rfl rfl rfl rfl rfl rfl rfl rfl rfl rfl rfl (by first | exact rfl | exact byte1 _) rfl ?_
    | refine AOps.buildArr Try.hX kn rfl rfl rfl rfl rfl rfl rfl rfl ?_
    | refine AOps.indexArr Try.hX kn rfl rfl rfl rfl rfl rfl rfl rfl rfl rfl rfl rfl ?_
    | refine AOps.runP1 Try.hX kn rfl rfl ?_
    | (refine AOps.splitT rfl rfl rfl (by with_reducible assumption) (fun h => ?_) <;> (fail_if_success (cases h; done)) <;> rw [h])
    | (refine AOps.splitF rfl rfl rfl (by with_reducible assumption) (fun h => ?_) <;> (fail_if_success (cases h; done)) <;> rw [h])
    | (refine AOps.split rfl rfl rfl (fun h => ?_) (fun h => ?_) <;> (fail_if_success (cases h; done)) <;> rw [h])
    | refine AOps.drawn (by kernel_rfl) ?_)
  all_goals
    show (_ : CV) = _
    clear h1 h2 h3 h4 h5 hf
    simp_all
end Go.Proofs
