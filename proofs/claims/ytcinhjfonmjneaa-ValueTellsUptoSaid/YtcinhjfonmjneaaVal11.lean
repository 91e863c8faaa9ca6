/- What Node, Told, Pack, Parse and Unpack of package value answer. -/
import Derived.Test.YtcinhjfonmjneaaVal10
import Derived.Test.YtcinhjfonmjneaaTree2
import Derived.Test.YtcinhjfonmjneaaBits
import Derived.Test.YtcinhjfonmjneaaEnd
import Derived.Test.YtcinhjfonmjneaaRPure
import Derived.Test.YtcinhjfonmjneaaTree6
import Derived.Test.YtcinhjfonmjneaaKind9
set_option linter.unusedVariables false
set_option linter.unusedSimpArgs false
set_option maxRecDepth 100000
namespace Go.Proofs
open Go.Abs
attribute [local irreducible] AK AOps QCalls ECalls vNode vNodes vElts tHas vHas tGoodN tDecode bytesN vPar tGood tPack tPar tUnpack

set_option maxHeartbeats 0 in
theorem vNode_calls (t : Ty) (v : Vl) (ht : tySize t ≤ 1048577) (hv : vlSize v ≤ 1048577) : QCalls Try.prog Try.X 77 [encTy t, encVl v] (.tup [encNd (tVNode t v).1, .int .i64 (tVNode t v).2]) := by
  have h1 := Has_calls t v ht hv
  have h2 := Packed_calls t (by omega)
  unfold tVNode
  obtain ⟨T, ts⟩ := t
  cases g1 : tHas (.mk T ts) v with
  | false =>
    rw [g1] at h1
    rw [if_neg (by simp)]
    obtain ⟨x1, x2, x3, x4, x5, x6, x7⟩ := v
    refine QCalls.of Try.func77 rfl (fun args w => Try.call77 args w) (Nat.le_of_ble_eq_true rfl) [(0, .c (encTy (.mk T ts))), (1, .c (encVl (.mk x1 x2 x3 x4 x5 x6 x7)))] rfl fun β hβ => ?_; have hf := Try.func77
    exact dq
  | true =>
  cases g2 : tPack (.mk T ts) with
  | false =>
    rw [g1] at h1; rw [g2] at h2
    rw [if_neg (by simp)]
    obtain ⟨x1, x2, x3, x4, x5, x6, x7⟩ := v
    refine QCalls.of Try.func77 rfl (fun args w => Try.call77 args w) (Nat.le_of_ble_eq_true rfl) [(0, .c (encTy (.mk T ts))), (1, .c (encVl (.mk x1 x2 x3 x4 x5 x6 x7)))] rfl fun β hβ => ?_; have hf := Try.func77
    exact dq
  | true =>
    rw [if_pos ⟨rfl, rfl⟩]
    have h3 := node_calls v (.mk T ts) (tHas_of g1).2.1 (tHas_of g1).2.2 hv
    have hsz := vNode_size v
    have h4 := treeGood_calls (vNode v) (by omega)
    rw [g1] at h1; rw [g2] at h2
    obtain ⟨x1, x2, x3, x4, x5, x6, x7⟩ := v
    rcases hr : vNode (.mk x1 x2 x3 x4 x5 x6 x7) with ⟨y1, y2, y3, y4, y5⟩
    rw [hr] at h3 h4
    by_cases e : tGoodN (.mk y1 y2 y3 y4 y5) = 0
    · rw [if_pos e]
      rw [e] at h4
      refine QCalls.of Try.func77 rfl (fun args w => Try.call77 args w) (Nat.le_of_ble_eq_true rfl) [(0, .c (encTy (.mk T ts))), (1, .c (encVl (.mk x1 x2 x3 x4 x5 x6 x7)))] rfl fun β hβ => ?_; have hf := Try.func77
      exact dq
    · rw [if_neg e]
      have e1 : (tGoodN (.mk y1 y2 y3 y4 y5) != 0) = true := by simpa using e
      generalize tGoodN (.mk y1 y2 y3 y4 y5) = z at h4 e1
      refine QCalls.of Try.func77 rfl (fun args w => Try.call77 args w) (Nat.le_of_ble_eq_true rfl) [(0, .c (encTy (.mk T ts))), (1, .c (encVl (.mk x1 x2 x3 x4 x5 x6 x7)))] rfl fun β hβ => ?_; have hf := Try.func77
      exact dq

set_option maxHeartbeats 0 in
theorem Told_calls (t : Ty) (v : Vl) (hb : tBad t = false) (hh : vHas v t = true) (hv : vlSize v ≤ 1048577) : QCalls Try.prog Try.X 121 [encVl v] (.tup [.str (tTold v).1, .int .i64 (tTold v).2]) := by
  have h3 := node_calls v t hb hh hv
  have hsz := vNode_size v
  have h4 := Encode_calls (vNode v) (by omega)
  rw [tEncode_eq] at h4
  unfold tTold
  obtain ⟨x1, x2, x3, x4, x5, x6, x7⟩ := v
  rcases hr : vNode (.mk x1 x2 x3 x4 x5 x6 x7) with ⟨y1, y2, y3, y4, y5⟩
  rw [hr] at h3 h4
  by_cases e : tGoodN (.mk y1 y2 y3 y4 y5) = 0
  · rw [if_pos e]
    rw [if_pos e] at h4
    simp only at h4
    generalize bytesN (.mk y1 y2 y3 y4 y5) = bs at h4
    by_cases hl : 200 ≤ bs.length
    · rw [if_pos hl]
      have e1 : decide (((bs.length : Nat) : Int) ≥ 200) = true := decide_eq_true (by omega)
      refine QCalls.of Try.func121 rfl (fun args w => Try.call121 args w) (Nat.le_of_ble_eq_true rfl) [(0, .c (encVl (.mk x1 x2 x3 x4 x5 x6 x7)))] rfl fun β hβ => ?_; have hf := Try.func121
      exact dq
    · rw [if_neg hl]
      have e1 : decide (((bs.length : Nat) : Int) ≥ 200) = false := decide_eq_false (by omega)
      refine QCalls.of Try.func121 rfl (fun args w => Try.call121 args w) (Nat.le_of_ble_eq_true rfl) [(0, .c (encVl (.mk x1 x2 x3 x4 x5 x6 x7)))] rfl fun β hβ => ?_; have hf := Try.func121
      repeat' (first | refine AK.runP Try.hX Try.mixed 300 rfl ?_ | refine AK.condTe rfl asm ?_ | refine AK.condFe rfl asm ?_ | (refine AK.condS rfl (fun h => ?_) (fun h => ?_) <;> first | (cases h; done) | rw [h] | skip) | refine AK.retQ Try.hX hf rfl rfl ?_ | refine AK.region Try.mixed rfl ?_ | refine AOps.done ?_ | refine AOps.runS Try.hX kn rfl ?_ | refine AOps.callq kn rfl rfl rfl rfl (h3) ?_ | refine AOps.callq kn rfl rfl rfl rfl (h4) ?_ | refine AOps.concat Try.hX kn rfl rfl rfl rfl rfl (show 1 + bs.length ≤ 9223372036854775807 from by omega) ?_ | refine AOps.box kn rfl rfl rfl rfl rfl rfl ?_ | refine AOps.alloc Try.hX kn rfl rfl rfl rfl rfl rfl rfl ?_ | refine AOps.store Try.hX kn rfl rfl rfl rfl rfl rfl rfl rfl rfl rfl rfl ?_ | refine AOps.buildSlice Try.hX kn rfl rfl rfl rfl rfl rfl rfl rfl rfl rfl rfl rfl ?_ | refine AOps.append Try.hX kn rfl rfl rfl rfl rfl rfl rfl rfl rfl rfl rfl rfl rfl rfl rfl rfl rfl rfl rfl rfl rfl ?_ ?_ | refine AOps.toStr Try.hX kn rfl rfl rfl rfl rfl rfl rfl rfl rfl rfl rfl (by first | exact rfl | exact byte1 _) rfl ?_ | refine AOps.buildArr Try.hX kn rfl rfl rfl rfl rfl rfl rfl rfl ?_ | refine AOps.indexArr Try.hX kn rfl rfl rfl rfl rfl rfl rfl rfl rfl rfl rfl rfl ?_ | refine AOps.runP1 Try.hX kn rfl rfl ?_ | (refine AOps.splitT rfl rfl rfl asm (fun h => ?_) <;> (fail_if_success (cases h; done)) <;> rw [h]) | (refine AOps.splitF rfl rfl rfl asm (fun h => ?_) <;> (fail_if_success (cases h; done)) <;> rw [h]) | (refine AOps.split rfl rfl rfl (fun h => ?_) (fun h => ?_) <;> (fail_if_success (cases h; done)) <;> rw [h]) | refine AOps.drawn (by kernel_rfl) ?_)
      all_goals rfl
  · rw [if_neg e]
    rw [if_neg e] at h4
    simp only at h4
    have e1 : (tGoodN (.mk y1 y2 y3 y4 y5) != 0) = true := by simpa using e
    generalize tGoodN (.mk y1 y2 y3 y4 y5) = z at h4 e1
    refine QCalls.of Try.func121 rfl (fun args w => Try.call121 args w) (Nat.le_of_ble_eq_true rfl) [(0, .c (encVl (.mk x1 x2 x3 x4 x5 x6 x7)))] rfl fun β hβ => ?_; have hf := Try.func121
    exact dq

set_option maxHeartbeats 0 in
theorem Pack_calls (t : Ty) (v : Vl) (ht : tySize t ≤ 1048577) (hv : vlSize v ≤ 1048577) : QCalls Try.prog Try.X 79 [encTy t, encVl v] (.tup [.str (tVPack t v).1, .int .i64 (tVPack t v).2]) := by
  have h1 := Has_calls t v ht hv
  have h2 := Packed_calls t (by omega)
  unfold tVPack
  obtain ⟨T, ts⟩ := t
  cases g1 : tHas (.mk T ts) v with
  | false =>
    rw [g1] at h1
    rw [if_neg (by simp)]
    obtain ⟨x1, x2, x3, x4, x5, x6, x7⟩ := v
    refine QCalls.of Try.func79 rfl (fun args w => Try.call79 args w) (Nat.le_of_ble_eq_true rfl) [(0, .c (encTy (.mk T ts))), (1, .c (encVl (.mk x1 x2 x3 x4 x5 x6 x7)))] rfl fun β hβ => ?_; have hf := Try.func79
    exact dq
  | true =>
  cases g2 : tPack (.mk T ts) with
  | false =>
    rw [g1] at h1; rw [g2] at h2
    rw [if_neg (by simp)]
    obtain ⟨x1, x2, x3, x4, x5, x6, x7⟩ := v
    refine QCalls.of Try.func79 rfl (fun args w => Try.call79 args w) (Nat.le_of_ble_eq_true rfl) [(0, .c (encTy (.mk T ts))), (1, .c (encVl (.mk x1 x2 x3 x4 x5 x6 x7)))] rfl fun β hβ => ?_; have hf := Try.func79
    exact dq
  | true =>
    rw [if_pos ⟨rfl, rfl⟩]
    have h3 := Told_calls (.mk T ts) v (tHas_of g1).2.1 (tHas_of g1).2.2 hv
    rw [g1] at h1; rw [g2] at h2
    generalize tTold v = z at h3
    obtain ⟨x1, x2, x3, x4, x5, x6, x7⟩ := v
    refine QCalls.of Try.func79 rfl (fun args w => Try.call79 args w) (Nat.le_of_ble_eq_true rfl) [(0, .c (encTy (.mk T ts))), (1, .c (encVl (.mk x1 x2 x3 x4 x5 x6 x7)))] rfl fun β hβ => ?_; have hf := Try.func79
    exact dq

/-- What CutPrefix of one byte answers. -/
def cut5 : List UInt8 → List UInt8 × Bool
  | [] => ([], false)
  | c :: r => if c = 5 then (r, true) else (c :: r, false)
end Go.Proofs
