/- What ValueNode, Told and Pack of touchstoneref answer; the law ValueTells. -/
import Derived.Test.YtcinhjfonmjneaaDataN
import Derived.Test.YtcinhjfonmjneaaVal11
import Derived.Test.YtcinhjfonmjneaaVal7
set_option linter.unusedVariables false
set_option linter.unusedSimpArgs false
set_option maxRecDepth 100000
namespace Go.Proofs
open Go.Abs
theorem wrap_rng (z : Int) : I64 (IntKind.i64.wrap z) := by rw [IntKind.wrap_i64]; constructor <;> omega
theorem set28_wf : ∀ (l : List Nd), ndsWf l → ndsWf (l.map set28)
  | [], _ => trivial
  | .mk k n p s args :: l, h => by
    simp only [ndsWf, ndWf] at h
    simp only [List.map_cons, set28, ndsWf, ndWf]
    exact ⟨⟨h.1.1, h.1.2.1, ⟨by decide, by decide⟩, h.1.2.2.2⟩, set28_wf l h.2⟩
mutual
theorem rNode_wf : ∀ (v : Vl), vlWf v → ndWf (rNode v)
  | .mk k n a s args types code, h => by
    simp only [vlWf] at h
    have h1 := rNodes_wf args h.2.2.2.1
    have h2 := set28_wf _ h1
    simp only [rNode]
    repeat' split
    all_goals
      simp only [ndWf, ndsWf]
      first
        | exact ⟨⟨by decide, by decide⟩, ⟨by decide, by decide⟩, ⟨by decide, by decide⟩, h1⟩
        | exact ⟨⟨by decide, by decide⟩, ⟨by decide, by decide⟩, wrap_rng _, h1⟩
        | exact ⟨⟨by decide, by decide⟩, ⟨by decide, by decide⟩, ⟨by decide, by decide⟩, h2⟩
        | exact ⟨⟨by decide, by decide⟩, h.2.1, ⟨by decide, by decide⟩, trivial⟩
        | exact ⟨⟨by decide, by decide⟩, ⟨by decide, by decide⟩, ⟨by decide, by decide⟩, trivial⟩
theorem rNodes_wf : ∀ (l : List Vl), vlsWf l → ndsWf (rNodes l)
  | [], _ => trivial
  | x :: l, h => by
    simp only [vlsWf] at h
    simp only [rNodes, ndsWf]
    exact ⟨rNode_wf x h.1, rNodes_wf l h.2⟩
end
theorem tHas_parts {t : Ty} {v : Vl} (h : tHas t v = true) : tBad t = false ∧ vHas v t = true := by
  have hg : tGood t = true ∧ vHas v t = true := by unfold tHas at h; simpa using h
  refine ⟨?_, hg.2⟩
  cases hb : tBad t with
  | false => rfl
  | true =>
    have h1 := bad_good t 24 300 hb
    rw [rGood_top, hg.1] at h1; cases h1
attribute [local irreducible] AK AOps QCalls ECalls vNode vNodes vElts tHas vHas tGoodN tDecode bytesN vPar tGood tPack tPar tUnpack tVNode tVPack tTold vSame ndSame tEncode rNode

set_option maxHeartbeats 0 in
theorem ValueNode_calls (t : Ty) (v : Vl) (hwv : vlWf v) (ht : tySize t ≤ 1048577) (hv : vlSize v ≤ 1048577) : QCalls Try.prog Try.X 78 [encTy t, encVl v] (.tup [encNd (tVNode t v).1, .int .i64 (tVNode t v).2]) := by
  have hp := rPacked_calls t (by omega)
  have hh := rHas_calls t v hwv ht hv
  have hsz := vNode_size v
  have hd := dataNode_calls v hv
  by_cases g : tHas t v = true ∧ tPack t = true
  rotate_left
  · rw [show tVNode t v = (nd0, 5) from by unfold tVNode; rw [if_neg g]]
    have gg : tPack t = false ∨ tPack t = true ∧ tHas t v = false := by
      cases h1 : tPack t <;> cases h2 : tHas t v <;> simp_all
    generalize tPack t = b at hp gg
    generalize tHas t v = c at hh gg
    obtain ⟨T, ts⟩ := t
    obtain ⟨x1, x2, x3, x4, x5, x6, x7⟩ := v
    rcases gg with rfl | ⟨rfl, rfl⟩
    · refine QCalls.of Try.func78 rfl (fun args w => Try.call78 args w) (Nat.le_of_ble_eq_true rfl) [(0, .c (encTy (.mk T ts))), (1, .c (encVl (.mk x1 x2 x3 x4 x5 x6 x7)))] rfl fun β hβ => ?_; have hf := Try.func78
      exact dq
    · refine QCalls.of Try.func78 rfl (fun args w => Try.call78 args w) (Nat.le_of_ble_eq_true rfl) [(0, .c (encTy (.mk T ts))), (1, .c (encVl (.mk x1 x2 x3 x4 x5 x6 x7)))] rfl fun β hβ => ?_; have hf := Try.func78
      exact dq
  obtain ⟨hb, hhv⟩ := tHas_parts g.1
  have hrn := rNode_has v t hb hhv
  have hwf := rNode_wf v hwv
  rw [hrn] at hd hwf
  have hG := GoodNode_calls (vNode v) hwf (by omega)
  rw [g.1] at hh
  rw [g.2] at hp
  by_cases e : tGoodN (vNode v) = 0
  · rw [show tVNode t v = (vNode v, 0) from by unfold tVNode; rw [if_pos g, if_pos e]]
    rw [e] at hG
    clear hrn hsz hwf
    generalize vNode v = r at hd hG e
    obtain ⟨r1, r2, r3, r4, r5⟩ := r
    obtain ⟨T, ts⟩ := t
    obtain ⟨x1, x2, x3, x4, x5, x6, x7⟩ := v
    refine QCalls.of Try.func78 rfl (fun args w => Try.call78 args w) (Nat.le_of_ble_eq_true rfl) [(0, .c (encTy (.mk T ts))), (1, .c (encVl (.mk x1 x2 x3 x4 x5 x6 x7)))] rfl fun β hβ => ?_; have hf := Try.func78
    exact dq
  · rw [show tVNode t v = (nd0, tGoodN (vNode v)) from by unfold tVNode; rw [if_pos g, if_neg e]]
    have e1 : (tGoodN (vNode v) != 0) = true := by simpa using e
    clear hrn hsz hwf
    generalize tGoodN (vNode v) = z at hG e1
    generalize vNode v = r at hd hG e
    obtain ⟨r1, r2, r3, r4, r5⟩ := r
    obtain ⟨T, ts⟩ := t
    obtain ⟨x1, x2, x3, x4, x5, x6, x7⟩ := v
    refine QCalls.of Try.func78 rfl (fun args w => Try.call78 args w) (Nat.le_of_ble_eq_true rfl) [(0, .c (encTy (.mk T ts))), (1, .c (encVl (.mk x1 x2 x3 x4 x5 x6 x7)))] rfl fun β hβ => ?_; have hf := Try.func78
    exact dq

set_option maxHeartbeats 0 in
theorem rTold_calls (v : Vl) (t : Ty) (hwv : vlWf v) (hb : tBad t = false) (hhv : vHas v t = true) (hv : vlSize v ≤ 1048577) : QCalls Try.prog Try.X 122 [encVl v] (.tup [.str (tTold v).1, .int .i64 (tTold v).2]) := by
  have hsz := vNode_size v
  have hd := dataNode_calls v hv
  have hrn := rNode_has v t hb hhv
  have hwf := rNode_wf v hwv
  rw [hrn] at hd hwf
  have hE := EncodeNode_calls (vNode v) hwf (by omega)
  clear hrn
  by_cases e : tGoodN (vNode v) = 0
  rotate_left
  · rw [show tTold v = ([], tGoodN (vNode v)) from by unfold tTold; rw [if_neg e]]
    rw [show tEncode (vNode v) = ([], tGoodN (vNode v)) from by rw [tEncode_eq, if_neg e]] at hE
    simp only at hE
    have e1 : (tGoodN (vNode v) != 0) = true := by simpa using e
    clear hsz hwf
    generalize tGoodN (vNode v) = z at hE e1
    generalize vNode v = r at hd hE e
    obtain ⟨r1, r2, r3, r4, r5⟩ := r
    obtain ⟨x1, x2, x3, x4, x5, x6, x7⟩ := v
    refine QCalls.of Try.func122 rfl (fun args w => Try.call122 args w) (Nat.le_of_ble_eq_true rfl) [(0, .c (encVl (.mk x1 x2 x3 x4 x5 x6 x7)))] rfl fun β hβ => ?_; have hf := Try.func122
    exact dq
  rw [show tEncode (vNode v) = (bytesN (vNode v), 0) from by rw [tEncode_eq, if_pos e]] at hE
  simp only at hE
  have hbl := bytesN_len (vNode v) 1 (tGoodN_zero.1 e).1 (by omega)
  by_cases hl : 200 ≤ (bytesN (vNode v)).length
  · rw [show tTold v = ([], 4) from by unfold tTold; rw [if_pos e, if_pos hl]]
    have c1 : decide ((((bytesN (vNode v)).length : Nat) : Int) > 199) = true := decide_eq_true (by omega)
    clear hsz hwf hbl
    generalize bytesN (vNode v) = bs at hE c1 hl
    generalize vNode v = r at hd hE e
    obtain ⟨r1, r2, r3, r4, r5⟩ := r
    obtain ⟨x1, x2, x3, x4, x5, x6, x7⟩ := v
    refine QCalls.of Try.func122 rfl (fun args w => Try.call122 args w) (Nat.le_of_ble_eq_true rfl) [(0, .c (encVl (.mk x1 x2 x3 x4 x5 x6 x7)))] rfl fun β hβ => ?_; have hf := Try.func122
    exact dq
  · rw [show tTold v = (5 :: bytesN (vNode v), 0) from by unfold tTold; rw [if_pos e, if_neg hl]]
    have c1 : decide ((((bytesN (vNode v)).length : Nat) : Int) > 199) = false := decide_eq_false (by omega)
    clear hsz hwf hbl
    generalize bytesN (vNode v) = bs at hE c1 hl
    generalize vNode v = r at hd hE e
    obtain ⟨r1, r2, r3, r4, r5⟩ := r
    obtain ⟨x1, x2, x3, x4, x5, x6, x7⟩ := v
    refine QCalls.of Try.func122 rfl (fun args w => Try.call122 args w) (Nat.le_of_ble_eq_true rfl) [(0, .c (encVl (.mk x1 x2 x3 x4 x5 x6 x7)))] rfl fun β hβ => ?_; have hf := Try.func122
    repeat' (first | refine AK.runP Try.hX Try.mixed 300 rfl ?_ | refine AK.condTe rfl asm ?_ | refine AK.condFe rfl asm ?_ | (refine AK.condS rfl (fun h => ?_) (fun h => ?_) <;> first | (cases h; done) | rw [h] | skip) | refine AK.retQ Try.hX hf rfl rfl ?_ | refine AK.region Try.mixed rfl ?_ | refine AOps.done ?_ | refine AOps.runS Try.hX kn rfl ?_ | refine AOps.callq kn rfl rfl rfl rfl (hd) ?_ | refine AOps.callq kn rfl rfl rfl rfl (hE) ?_ | refine AOps.concat Try.hX kn rfl rfl rfl rfl rfl (by simp only [List.length_cons, List.length_nil]; omega) ?_ | refine AOps.box kn rfl rfl rfl rfl rfl rfl ?_ | refine AOps.alloc Try.hX kn rfl rfl rfl rfl rfl rfl rfl ?_ | refine AOps.store Try.hX kn rfl rfl rfl rfl rfl rfl rfl rfl rfl rfl rfl ?_ | refine AOps.buildSlice Try.hX kn rfl rfl rfl rfl rfl rfl rfl rfl rfl rfl rfl rfl ?_ | refine AOps.append Try.hX kn rfl rfl rfl rfl rfl rfl rfl rfl rfl rfl rfl rfl rfl rfl rfl rfl rfl rfl rfl rfl rfl ?_ ?_ | refine AOps.toStr Try.hX kn rfl rfl rfl rfl rfl rfl rfl rfl rfl rfl rfl (by first | exact rfl | exact byte1 _) rfl ?_ | refine AOps.buildArr Try.hX kn rfl rfl rfl rfl rfl rfl rfl rfl ?_ | refine AOps.indexArr Try.hX kn rfl rfl rfl rfl rfl rfl rfl rfl rfl rfl rfl rfl ?_ | refine AOps.runP1 Try.hX kn rfl rfl ?_ | (refine AOps.splitT rfl rfl rfl asm (fun h => ?_) <;> (fail_if_success (cases h; done)) <;> rw [h]) | (refine AOps.splitF rfl rfl rfl asm (fun h => ?_) <;> (fail_if_success (cases h; done)) <;> rw [h]) | (refine AOps.split rfl rfl rfl (fun h => ?_) (fun h => ?_) <;> (fail_if_success (cases h; done)) <;> rw [h]) | refine AOps.drawn (by kernel_rfl) ?_)
    all_goals rfl

set_option maxHeartbeats 0 in
theorem rPack_calls (t : Ty) (v : Vl) (hwv : vlWf v) (ht : tySize t ≤ 1048577) (hv : vlSize v ≤ 1048577) : QCalls Try.prog Try.X 80 [encTy t, encVl v] (.tup [.str (tVPack t v).1, .int .i64 (tVPack t v).2]) := by
  have hp := rPacked_calls t (by omega)
  have hh := rHas_calls t v hwv ht hv
  by_cases g : tHas t v = true ∧ tPack t = true
  rotate_left
  · rw [show tVPack t v = ([], 5) from by unfold tVPack; rw [if_neg g]]
    have gg : tPack t = false ∨ tPack t = true ∧ tHas t v = false := by
      cases h1 : tPack t <;> cases h2 : tHas t v <;> simp_all
    generalize tPack t = b at hp gg
    generalize tHas t v = c at hh gg
    obtain ⟨T, ts⟩ := t
    obtain ⟨x1, x2, x3, x4, x5, x6, x7⟩ := v
    rcases gg with rfl | ⟨rfl, rfl⟩
    · refine QCalls.of Try.func80 rfl (fun args w => Try.call80 args w) (Nat.le_of_ble_eq_true rfl) [(0, .c (encTy (.mk T ts))), (1, .c (encVl (.mk x1 x2 x3 x4 x5 x6 x7)))] rfl fun β hβ => ?_; have hf := Try.func80
      exact dq
    · refine QCalls.of Try.func80 rfl (fun args w => Try.call80 args w) (Nat.le_of_ble_eq_true rfl) [(0, .c (encTy (.mk T ts))), (1, .c (encVl (.mk x1 x2 x3 x4 x5 x6 x7)))] rfl fun β hβ => ?_; have hf := Try.func80
      exact dq
  obtain ⟨hb, hhv⟩ := tHas_parts g.1
  have hT := rTold_calls v t hwv hb hhv hv
  rw [show tVPack t v = tTold v from by unfold tVPack; rw [if_pos g]]
  rw [g.1] at hh
  rw [g.2] at hp
  generalize tTold v = r at hT
  obtain ⟨r1, r2⟩ := r
  obtain ⟨T, ts⟩ := t
  obtain ⟨x1, x2, x3, x4, x5, x6, x7⟩ := v
  refine QCalls.of Try.func80 rfl (fun args w => Try.call80 args w) (Nat.le_of_ble_eq_true rfl) [(0, .c (encTy (.mk T ts))), (1, .c (encVl (.mk x1 x2 x3 x4 x5 x6 x7)))] rfl fun β hβ => ?_; have hf := Try.func80
  exact dq

set_option maxHeartbeats 0 in
theorem ValueTells_calls (t : Ty) (hw : tyWf t) (ht : tySize t ≤ 1048577) (v : Vl) (hwv : vlWf v) (hv : vlSize v ≤ 1048577) : QCalls Try.prog Try.X 20 [encTy t, encVl v] (.bool true) := by
  have h1 := vNode_calls t v ht hv
  have h2 := ValueNode_calls t v hwv ht hv
  have h3 := Pack_calls t v ht hv
  have h4 := rPack_calls t v hwv ht hv
  have h5 := worthL_calls
  have hsz : ndSize (tVNode t v).1 ≤ 1048577 := by
    have := vNode_size v
    unfold tVNode
    repeat' split
    all_goals first | (show ndSize nd0 ≤ 1048577; decide) | (show ndSize (vNode v) ≤ 1048577; omega)
  generalize tVNode t v = r at h1 h2 hsz
  generalize tVPack t v = q at h3 h4
  obtain ⟨r1, r2⟩ := r
  obtain ⟨q1, q2⟩ := q
  simp only at hsz h1 h2 h3 h4
  have h6 := SameNode_calls r1 r1 (by omega)
  rw [(ndSame_iff _ _).2 rfl] at h6
  have e1 : (r2 == r2) = true := by simp
  have e2 : (q1 == q1) = true := by simp
  have e3 : (q2 == q2) = true := by simp
  have e4 : (r2 != r2) = false := by simp
  obtain ⟨y1, y2, y3, y4, y5⟩ := r1
  obtain ⟨T, ts⟩ := t
  obtain ⟨x1, x2, x3, x4, x5, x6, x7⟩ := v
  refine QCalls.of Try.func20 rfl (fun args w => Try.call20 args w) (Nat.le_of_ble_eq_true rfl) [(0, .c (encTy (.mk T ts))), (1, .c (encVl (.mk x1 x2 x3 x4 x5 x6 x7)))] rfl fun β hβ => ?_; have hf := Try.func20
  repeat' (first | refine AK.runP Try.hX Try.mixed 300 rfl ?_ | refine AK.condTe rfl asm ?_ | refine AK.condFe rfl asm ?_ | (refine AK.condS rfl (fun h => ?_) (fun h => ?_) <;> first | (cases h; done) | rw [h] | skip) | refine AK.retQ Try.hX hf rfl rfl ?_ | refine AK.region Try.mixed rfl ?_ | refine AOps.done ?_ | refine AOps.runS Try.hX kn rfl ?_ | refine AOps.callq kn rfl rfl rfl rfl (h1) ?_ | refine AOps.callq kn rfl rfl rfl rfl (h2) ?_ | refine AOps.callq kn rfl rfl rfl rfl (h3) ?_ | refine AOps.callq kn rfl rfl rfl rfl (h4) ?_ | refine AOps.callq kn rfl rfl rfl rfl (h5) ?_ | refine AOps.callq kn rfl rfl rfl rfl (h6) ?_ | refine AOps.box kn rfl rfl rfl rfl rfl rfl ?_ | refine AOps.alloc Try.hX kn rfl rfl rfl rfl rfl rfl rfl ?_ | refine AOps.store Try.hX kn rfl rfl rfl rfl rfl rfl rfl rfl rfl rfl rfl ?_ | refine AOps.buildSlice Try.hX kn rfl rfl rfl rfl rfl rfl rfl rfl rfl rfl rfl rfl ?_ | refine AOps.append Try.hX kn rfl rfl rfl rfl rfl rfl rfl rfl rfl rfl rfl rfl rfl rfl rfl rfl rfl rfl rfl rfl rfl ?_ ?_ | refine AOps.toStr Try.hX kn rfl rfl rfl rfl rfl rfl rfl rfl rfl rfl rfl (by first | exact rfl | exact byte1 _) rfl ?_ | refine AOps.buildArr Try.hX kn rfl rfl rfl rfl rfl rfl rfl rfl ?_ | refine AOps.indexArr Try.hX kn rfl rfl rfl rfl rfl rfl rfl rfl rfl rfl rfl rfl ?_ | refine AOps.runP1 Try.hX kn rfl rfl ?_ | (refine AOps.splitT rfl rfl rfl asm (fun h => ?_) <;> (fail_if_success (cases h; done)) <;> rw [h]) | (refine AOps.splitF rfl rfl rfl asm (fun h => ?_) <;> (fail_if_success (cases h; done)) <;> rw [h]) | (refine AOps.split rfl rfl rfl (fun h => ?_) (fun h => ?_) <;> (fail_if_success (cases h; done)) <;> rw [h]) | refine AOps.drawn (by kernel_rfl) ?_)
  all_goals
    show (_ : CV) = _
    first | rfl | simp
end Go.Proofs
