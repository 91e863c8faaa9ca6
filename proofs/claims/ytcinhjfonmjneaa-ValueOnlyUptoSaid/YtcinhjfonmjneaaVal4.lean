/- What Has, Compare and worth answer; the laws ValueOneType and ValueOrder. -/
import Derived.Test.YtcinhjfonmjneaaVal3
import Derived.Test.YtcinhjfonmjneaaTree2
set_option linter.unusedVariables false
set_option linter.unusedSimpArgs false
set_option maxRecDepth 100000
namespace Go.Proofs
open Go.Abs
theorem tHas_of {t : Ty} {v : Vl} (h : tHas t v = true) : tGood t = true ∧ tBad t = false ∧ vHas v t = true := by
  unfold tHas at h
  simp only [Bool.and_eq_true] at h
  exact ⟨h.1, tGood_bad h.1, h.2⟩
theorem oneType {t u : Ty} {v : Vl} (h1 : tHas t v = true) (h2 : tHas u v = true) (h3 : tComp t = true) (n9 : tyT t ≠ 9) (n11 : tyT t ≠ 11) (n12 : tyT t ≠ 12) : t = u := by
  obtain ⟨k, n, a, s, args, types, code⟩ := v
  obtain ⟨_, b1, a1⟩ := tHas_of h1
  obtain ⟨_, b2, a2⟩ := tHas_of h2
  have k1 := (vHas_head a1).1
  have k2 := (vHas_head a2).1
  have c := compP_cases (tComp_args h3).1
  have r1 := (tBad_args b1).1
  have r2 := (tBad_args b2).1
  rw [← k2, k1] at r2
  cases t with | mk T ts =>
  cases u with | mk U us =>
  simp only [tyT, tyArgs] at *
  have h0 : arity T = 0 := by
    unfold arity
    split <;> omega
  have z1 : ts = [] := List.length_eq_zero_iff.1 (by omega)
  have z2 : us = [] := List.length_eq_zero_iff.1 (by omega)
  rw [z1, z2, ← k1, ← k2]
theorem pairType {t u : Ty} {v : Vl} (h1 : tHas t v = true) (h2 : tHas u v = true) (h11 : tyT t = 11) : ∃ p q p' q' n a s x y types code, t = .mk 11 [p, q] ∧ u = .mk 11 [p', q'] ∧ v = .mk 11 n a s [x, y] types code := by
  obtain ⟨_, b1, a1⟩ := tHas_of h1
  obtain ⟨_, b2, a2⟩ := tHas_of h2
  obtain ⟨k, n, a, s, args, types, code⟩ := v
  have k1 := (vHas_head a1).1
  have k2 := (vHas_head a2).1
  have r1 := (tBad_args b1).1
  have r2 := (tBad_args b2).1
  rw [← k2, k1] at r2
  cases t with | mk T ts =>
  cases u with | mk U us =>
  simp only [tyT, tyArgs] at *
  subst h11
  have ha : arity 11 = 2 := by decide
  obtain ⟨p, q, rfl⟩ := tlen2 (show ts.length = 2 by omega)
  obtain ⟨p', q', rfl⟩ := tlen2 (show us.length = 2 by omega)
  have hk : k = 11 := k1
  obtain ⟨n, a, s, types, code, y, z, e, _⟩ := has11 (by rw [hk] at a1; exact a1)
  refine ⟨p, q, p', q', n, a, s, y, z, types, code, rfl, ?_, ?_⟩
  · rw [← k2, hk]
  · rw [hk]; exact e
attribute [local irreducible] AK AOps QCalls ECalls vCmp vHas vSame tGood tComp tGoodN vSize tySame tHas

set_option maxHeartbeats 0 in
theorem Has_calls (t : Ty) (v : Vl) (ht : tySize t ≤ 1048577) (hv : vlSize v ≤ 1048577) : QCalls Try.prog Try.X 67 [encTy t, encVl v] (.bool (tHas t v)) := by
  obtain ⟨T, ts⟩ := t
  obtain ⟨x1, x2, x3, x4, x5, x6, x7⟩ := v
  have h1 := Good_calls (.mk T ts) ht
  cases hg : tGood (.mk T ts) with
  | false =>
    rw [hg] at h1
    rw [show tHas (.mk T ts) (.mk x1 x2 x3 x4 x5 x6 x7) = false from by unfold tHas; rw [hg, Bool.false_and]]
    refine QCalls.of Try.func67 rfl (fun args w => Try.call67 args w) (Nat.le_of_ble_eq_true rfl) [(0, .c (encTy (.mk T ts))), (1, .c (encVl (.mk x1 x2 x3 x4 x5 x6 x7)))] rfl fun β hβ => ?_; have hf := Try.func67
    exact dq
  | true =>
    have h2 := has_calls (.mk x1 x2 x3 x4 x5 x6 x7) (.mk T ts) (tGood_bad hg) hv ht
    rw [hg] at h1
    rw [show tHas (.mk T ts) (.mk x1 x2 x3 x4 x5 x6 x7) = vHas (.mk x1 x2 x3 x4 x5 x6 x7) (.mk T ts) from by unfold tHas; rw [hg, Bool.true_and]]
    generalize vHas (.mk x1 x2 x3 x4 x5 x6 x7) (.mk T ts) = b at h2
    refine QCalls.of Try.func67 rfl (fun args w => Try.call67 args w) (Nat.le_of_ble_eq_true rfl) [(0, .c (encTy (.mk T ts))), (1, .c (encVl (.mk x1 x2 x3 x4 x5 x6 x7)))] rfl fun β hβ => ?_; have hf := Try.func67
    exact dq

set_option maxHeartbeats 0 in
theorem Compare_calls (t : Ty) (a b : Vl) (ht : tySize t ≤ 1048577) (ha : vlSize a ≤ 1048577) (hb : vlSize b ≤ 1048577) : QCalls Try.prog Try.X 69 [encTy t, encVl a, encVl b] (two (tCompare t a b)) := by
  obtain ⟨T, ts⟩ := t
  obtain ⟨x1, x2, x3, x4, x5, x6, x7⟩ := a
  obtain ⟨y1, y2, y3, y4, y5, y6, y7⟩ := b
  have h1 := Has_calls (.mk T ts) (.mk x1 x2 x3 x4 x5 x6 x7) ht ha
  have h2 := Has_calls (.mk T ts) (.mk y1 y2 y3 y4 y5 y6 y7) ht hb
  have h3 := Comparable_calls (.mk T ts) (by omega)
  unfold tCompare
  by_cases g : tHas (.mk T ts) (.mk x1 x2 x3 x4 x5 x6 x7) = true ∧ tHas (.mk T ts) (.mk y1 y2 y3 y4 y5 y6 y7) = true ∧ tComp (.mk T ts) = true
  · have h4 := compare_calls (.mk x1 x2 x3 x4 x5 x6 x7) (.mk y1 y2 y3 y4 y5 y6 y7) (.mk T ts) (tHas_of g.1).2.1 (tHas_of g.1).2.2 (tHas_of g.2.1).2.2 (by omega)
    rw [if_pos g]
    rw [g.1] at h1; rw [g.2.1] at h2; rw [g.2.2] at h3
    generalize vCmp (.mk x1 x2 x3 x4 x5 x6 x7) (.mk y1 y2 y3 y4 y5 y6 y7) = z at h4
    refine QCalls.of Try.func69 rfl (fun args w => Try.call69 args w) (Nat.le_of_ble_eq_true rfl) [(0, .c (encTy (.mk T ts))), (1, .c (encVl (.mk x1 x2 x3 x4 x5 x6 x7))), (2, .c (encVl (.mk y1 y2 y3 y4 y5 y6 y7)))] rfl fun β hβ => ?_; have hf := Try.func69
    exact dq
  · rw [if_neg g]
    cases g1 : tHas (.mk T ts) (.mk x1 x2 x3 x4 x5 x6 x7) with
    | false =>
      rw [g1] at h1
      refine QCalls.of Try.func69 rfl (fun args w => Try.call69 args w) (Nat.le_of_ble_eq_true rfl) [(0, .c (encTy (.mk T ts))), (1, .c (encVl (.mk x1 x2 x3 x4 x5 x6 x7))), (2, .c (encVl (.mk y1 y2 y3 y4 y5 y6 y7)))] rfl fun β hβ => ?_; have hf := Try.func69
      exact dq
    | true =>
      rw [g1] at h1
      cases g2 : tHas (.mk T ts) (.mk y1 y2 y3 y4 y5 y6 y7) with
      | false =>
        rw [g2] at h2
        refine QCalls.of Try.func69 rfl (fun args w => Try.call69 args w) (Nat.le_of_ble_eq_true rfl) [(0, .c (encTy (.mk T ts))), (1, .c (encVl (.mk x1 x2 x3 x4 x5 x6 x7))), (2, .c (encVl (.mk y1 y2 y3 y4 y5 y6 y7)))] rfl fun β hβ => ?_; have hf := Try.func69
        exact dq
      | true =>
        rw [g2] at h2
        cases g3 : tComp (.mk T ts) with
        | false =>
          rw [g3] at h3
          refine QCalls.of Try.func69 rfl (fun args w => Try.call69 args w) (Nat.le_of_ble_eq_true rfl) [(0, .c (encTy (.mk T ts))), (1, .c (encVl (.mk x1 x2 x3 x4 x5 x6 x7))), (2, .c (encVl (.mk y1 y2 y3 y4 y5 y6 y7)))] rfl fun β hβ => ?_; have hf := Try.func69
          exact dq
        | true => exact absurd ⟨g1, g2, g3⟩ g

set_option maxHeartbeats 0 in
theorem parse5_calls : QCalls Try.prog Try.X 123 [encTy (.mk 4 []), encNd (.mk 0 5 0 [] [])] (.tup [encVl (.mk 4 5 0 [] [] [] []), .bool true]) := by
  refine QCalls.of Try.func123 rfl (fun args w => Try.call123 args w) (Nat.le_of_ble_eq_true rfl) [(0, .c (encTy (.mk 4 []))), (1, .c (encNd (.mk 0 5 0 [] [])))] rfl fun β hβ => ?_; have hf := Try.func123
  refine AK.seq ?_
  refine AK.region Try.mixed rfl ?_
  repeat' (first | refine AOps.done ?_ | refine AOps.runS Try.hX kn rfl ?_ | refine AOps.box kn rfl rfl rfl rfl rfl rfl ?_ | refine AOps.alloc Try.hX kn rfl rfl rfl rfl rfl rfl rfl ?_ | refine AOps.store Try.hX kn rfl rfl rfl rfl rfl rfl rfl rfl rfl rfl rfl ?_ | refine AOps.buildSlice Try.hX kn rfl rfl rfl rfl rfl rfl rfl rfl rfl rfl rfl rfl ?_ | refine AOps.append Try.hX kn rfl rfl rfl rfl rfl rfl rfl rfl rfl rfl rfl rfl rfl rfl rfl rfl rfl rfl rfl rfl rfl ?_ ?_ | refine AOps.toStr Try.hX kn rfl rfl rfl rfl rfl rfl rfl rfl rfl rfl rfl (by first | exact rfl | exact byte1 _) rfl ?_ | refine AOps.buildArr Try.hX kn rfl rfl rfl rfl rfl rfl rfl rfl ?_ | refine AOps.indexArr Try.hX kn rfl rfl rfl rfl rfl rfl rfl rfl rfl rfl rfl rfl ?_ | refine AOps.runP1 Try.hX kn rfl rfl ?_ | (refine AOps.splitT rfl rfl rfl (by first | with_reducible assumption | (simp only [cond_true, cond_false, Bool.not_true, Bool.not_false, bne_self_eq_false, Int.reduceBNe, Int.reduceBEq]; first | done | with_reducible assumption)) (fun h => ?_) <;> (fail_if_success (cases h; done)) <;> rw [h]) | (refine AOps.splitF rfl rfl rfl (by first | with_reducible assumption | (simp only [cond_true, cond_false, Bool.not_true, Bool.not_false, bne_self_eq_false, Int.reduceBNe, Int.reduceBEq]; first | done | with_reducible assumption)) (fun h => ?_) <;> (fail_if_success (cases h; done)) <;> rw [h]) | (refine AOps.split rfl rfl rfl (fun h => ?_) (fun h => ?_) <;> (fail_if_success (cases h; done)) <;> rw [h]) | refine AOps.drawn (by kernel_rfl) ?_)
  refine AK.freeze 3 rfl rfl rfl rfl ?_
  exact dq
set_option maxHeartbeats 0 in
theorem Parse5_calls : QCalls Try.prog Try.X 81 [encTy (.mk 4 []), encNd (.mk 0 5 0 [] [])] (.tup [encVl (.mk 4 5 0 [] [] [] []), .int .i64 0]) := by
  have h1 := Good_calls (.mk 4 []) (by decide)
  rw [show tGood (.mk 4 []) = true from by decide +kernel] at h1
  have h2 := treeGood_calls (.mk 0 5 0 [] []) (by decide)
  rw [show tGoodN (.mk 0 5 0 [] []) = 0 from by decide +kernel] at h2
  have h3 := parse5_calls
  have h4 := has_calls (.mk 4 5 0 [] [] [] []) (.mk 4 []) (by decide +kernel) (by decide) (by decide)
  rw [show vHas (.mk 4 5 0 [] [] [] []) (.mk 4 []) = true from by decide +kernel] at h4
  refine QCalls.of Try.func81 rfl (fun args w => Try.call81 args w) (Nat.le_of_ble_eq_true rfl) [(0, .c (encTy (.mk 4 []))), (1, .c (encNd (.mk 0 5 0 [] [])))] rfl fun β hβ => ?_; have hf := Try.func81
  exact dq
set_option maxHeartbeats 0 in
theorem worthK_calls : QCalls Try.prog Try.X 68 [] (.bool true) := by
  have h1 := Parse5_calls
  have h2 := Size_calls (.mk 4 5 0 [] [] [] []) (by decide)
  rw [show vSize (.mk 4 5 0 [] [] [] []) = 1 from by decide +kernel] at h2
  refine QCalls.of Try.func68 rfl (fun args w => Try.call68 args w) (Nat.le_of_ble_eq_true rfl) [] rfl fun β hβ => ?_; have hf := Try.func68
  exact dq
set_option maxHeartbeats 0 in
theorem worthL_calls : QCalls Try.prog Try.X 76 [] (.bool true) := by
  have h1 := Parse5_calls
  have h2 := Size_calls (.mk 4 5 0 [] [] [] []) (by decide)
  rw [show vSize (.mk 4 5 0 [] [] [] []) = 1 from by decide +kernel] at h2
  refine QCalls.of Try.func76 rfl (fun args w => Try.call76 args w) (Nat.le_of_ble_eq_true rfl) [] rfl fun β hβ => ?_; have hf := Try.func76
  exact dq

set_option maxHeartbeats 0 in
theorem oneType_calls : ∀ (t u : Ty) (v : Vl), tySize t ≤ 1048577 → tySize u ≤ 1048577 → vlSize v ≤ 1048577 → QCalls Try.prog Try.X 17 [encTy t, encTy u, encVl v] (.bool true)
  | .mk T ts, .mk U us, .mk v1 v2 v3 v4 v5 v6 v7, ht, hu, hv => by
    have hin : ∀ x ∈ ts, ∀ y ∈ us, ∀ z, vlSize z ≤ 1048577 → QCalls Try.prog Try.X 17 [encTy x, encTy y, encVl z] (.bool true) := fun x hx y hy z hz =>
      oneType_calls x y z (by have := tysSize_mem hx; simp only [tySize] at ht; omega) (by have := tysSize_mem hy; simp only [tySize] at hu; omega) hz
    have h1 := Has_calls (.mk T ts) (.mk v1 v2 v3 v4 v5 v6 v7) ht hv
    have h2 := Has_calls (.mk U us) (.mk v1 v2 v3 v4 v5 v6 v7) hu hv
    have h3 := Comparable_calls (.mk T ts) (by omega)
    have h5 := worthK_calls
    cases g1 : tHas (.mk T ts) (.mk v1 v2 v3 v4 v5 v6 v7) with
    | false =>
      rw [g1] at h1
      refine QCalls.of Try.func17 rfl (fun args w => Try.call17 args w) (Nat.le_of_ble_eq_true rfl) [(0, .c (encTy (.mk T ts))), (1, .c (encTy (.mk U us))), (2, .c (encVl (.mk v1 v2 v3 v4 v5 v6 v7)))] rfl fun β hβ => ?_; have hf := Try.func17
      exact dq
    | true =>
    cases g2 : tHas (.mk U us) (.mk v1 v2 v3 v4 v5 v6 v7) with
    | false =>
      rw [g1] at h1; rw [g2] at h2
      refine QCalls.of Try.func17 rfl (fun args w => Try.call17 args w) (Nat.le_of_ble_eq_true rfl) [(0, .c (encTy (.mk T ts))), (1, .c (encTy (.mk U us))), (2, .c (encVl (.mk v1 v2 v3 v4 v5 v6 v7)))] rfl fun β hβ => ?_; have hf := Try.func17
      exact dq
    | true =>
    rw [g1] at h1; rw [g2] at h2
    by_cases c9 : T = 9
    · subst c9
      refine QCalls.of Try.func17 rfl (fun args w => Try.call17 args w) (Nat.le_of_ble_eq_true rfl) [(0, .c (encTy (.mk 9 ts))), (1, .c (encTy (.mk U us))), (2, .c (encVl (.mk v1 v2 v3 v4 v5 v6 v7)))] rfl fun β hβ => ?_; have hf := Try.func17
      exact dq
    by_cases c12 : T = 12
    · subst c12
      refine QCalls.of Try.func17 rfl (fun args w => Try.call17 args w) (Nat.le_of_ble_eq_true rfl) [(0, .c (encTy (.mk 12 ts))), (1, .c (encTy (.mk U us))), (2, .c (encVl (.mk v1 v2 v3 v4 v5 v6 v7)))] rfl fun β hβ => ?_; have hf := Try.func17
      exact dq
    have e9 : (T == 9) = false := by simpa using c9
    have e12 : (T == 12) = false := by simpa using c12
    cases g3 : tComp (.mk T ts) with
    | false =>
      rw [g3] at h3
      refine QCalls.of Try.func17 rfl (fun args w => Try.call17 args w) (Nat.le_of_ble_eq_true rfl) [(0, .c (encTy (.mk T ts))), (1, .c (encTy (.mk U us))), (2, .c (encVl (.mk v1 v2 v3 v4 v5 v6 v7)))] rfl fun β hβ => ?_; have hf := Try.func17
      exact dq
    | true =>
    rw [g3] at h3
    by_cases c11 : T = 11
    · obtain ⟨p, q, p', q', n, a, s, x, y, types, code, e1, e2, e3⟩ := pairType g1 g2 c11
      injection e1 with e1a e1b
      injection e2 with e2a e2b
      injection e3 with e3a e3b e3c e3d e3e e3f e3g
      subst e1a e1b e2a e2b e3a e3b e3c e3d e3e e3f e3g
      simp only [vlSize, vlsSize] at hv
      have k1 := hin p (by simp) p' (by simp) x (by omega)
      have k2 := hin q (by simp) q' (by simp) y (by omega)
      have m1 : [p, q][0]? = some p := rfl
      have m2 : [p, q][1]? = some q := rfl
      have m3 : [p', q'][0]? = some p' := rfl
      have m4 : [p', q'][1]? = some q' := rfl
      have m5 : [x, y][0]? = some x := rfl
      have m6 : [x, y][1]? = some y := rfl
      obtain ⟨p1, p2⟩ := p
      obtain ⟨q1, q2⟩ := q
      obtain ⟨p3, p4⟩ := p'
      obtain ⟨q3, q4⟩ := q'
      obtain ⟨x1, x2, x3, x4, x5, x6, x7⟩ := x
      obtain ⟨y1, y2, y3, y4, y5, y6, y7⟩ := y
      refine QCalls.of Try.func17 rfl (fun args w => Try.call17 args w) (Nat.le_of_ble_eq_true rfl) [(0, .c (encTy (.mk 11 [.mk p1 p2, .mk q1 q2]))), (1, .c (encTy (.mk 11 [.mk p3 p4, .mk q3 q4]))), (2, .c (encVl (.mk 11 v2 v3 v4 [.mk x1 x2 x3 x4 x5 x6 x7, .mk y1 y2 y3 y4 y5 y6 y7] v6 v7)))] rfl fun β hβ => ?_; have hf := Try.func17
      have tsr1 := tys_at m1
      have tsr2 := tys_at m2
      have tsr3 := tys_at m3
      have tsr4 := tys_at m4
      have tsr5 := vls_at m5
      have tsr6 := vls_at m6
      exact dq
    have e11 : (T == 11) = false := by simpa using c11
    have h4 := Same_calls (.mk T ts) (.mk U us) (by omega)
    rw [(tySame_iff _ _).2 (oneType g1 g2 g3 c9 c11 c12)] at h4
    refine QCalls.of Try.func17 rfl (fun args w => Try.call17 args w) (Nat.le_of_ble_eq_true rfl) [(0, .c (encTy (.mk T ts))), (1, .c (encTy (.mk U us))), (2, .c (encVl (.mk v1 v2 v3 v4 v5 v6 v7)))] rfl fun β hβ => ?_; have hf := Try.func17
    exact dq
termination_by t => SizeOf.sizeOf t
decreasing_by
  have := List.sizeOf_lt_of_mem hx
  simp at this ⊢; omega
theorem ValueOneType_calls (t : Ty) (hw : tyWf t) (ht : tySize t ≤ 1048577) (u : Ty) (hw' : tyWf u) (hu : tySize u ≤ 1048577) (v : Vl) (hw2 : vlWf v) (hv : vlSize v ≤ 1048577) : QCalls Try.prog Try.X 17 [encTy t, encTy u, encVl v] (.bool true) := oneType_calls t u v ht hu hv
end Go.Proofs
