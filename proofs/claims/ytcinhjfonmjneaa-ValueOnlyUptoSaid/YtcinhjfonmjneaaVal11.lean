/- What Node, Told, Pack, Parse and Unpack of package value answer. -/
import Derived.Test.YtcinhjfonmjneaaVal10
import Derived.Test.YtcinhjfonmjneaaTreeLaw
set_option linter.unusedVariables false
set_option linter.unusedSimpArgs false
set_option maxRecDepth 100000
namespace Go.Proofs
open Go.Abs
theorem tDecode_small {s : List UInt8} {n : Nat} (hs : s.length ≤ n) : ndSize (tDecode s).1 ≤ n + 1 := by
  by_cases he : (tDecode s).2 = 0
  · obtain ⟨hg, hb⟩ := tDecode_only he
    have h1 := bytesN_size _ 1 (tGoodN_zero.1 hg).1
    rw [hb] at h1; omega
  · rw [tDecode_bad he]; simp [nd0, ndSize, ndsSize]
theorem tUnpack_nil (t : Ty) : tUnpack t [] = (vl0, 1) := rfl
theorem tUnpack_no (t : Ty) (c : UInt8) (r : List UInt8) (h : ¬ (c = 5 ∧ (c :: r).length ≤ 200 ∧ tPack t = true ∧ (tDecode r).2 = 0)) : tUnpack t (c :: r) = (vl0, 1) := by simp only [tUnpack, if_neg h]
theorem tUnpack_go (t : Ty) (r : List UInt8) (h : (5 :: r : List UInt8).length ≤ 200 ∧ tPack t = true ∧ (tDecode r).2 = 0) : tUnpack t (5 :: r) = tPar t (tDecode r).1 := by
  unfold tUnpack
  exact if_pos ⟨rfl, h⟩
attribute [local irreducible] AK AOps QCalls ECalls vNode vNodes vElts tHas vHas tGoodN tDecode bytesN vPar tGood tPack tPar tUnpack

set_option maxHeartbeats 0 in
theorem vNode_calls (t : Ty) (v : Vl) (ht : tySize t ≤ 1048577) (hv : vlSize v ≤ 1048577) : QCalls Try.prog Try.X 77 [encTy t, encVl v] (.tup [encNd (tVNode t v).1, .int .i64 (tVNode t v).2]) := by
  have h1 := Has_calls t v ht hv
  have h2 := Packed_calls t (by omega)
  unfold tVNode
  obtain ⟨T, ts⟩ := t
  cases g1 : tHas (.mk T ts) v with
  | false =>
    rw [g1] at h1
    rw [if_neg (by simp)]
    obtain ⟨x1, x2, x3, x4, x5, x6, x7⟩ := v
    refine QCalls.of Try.func77 rfl (fun args w => Try.call77 args w) (Nat.le_of_ble_eq_true rfl) [(0, .c (encTy (.mk T ts))), (1, .c (encVl (.mk x1 x2 x3 x4 x5 x6 x7)))] rfl fun β hβ => ?_; have hf := Try.func77
    exact dq
  | true =>
  cases g2 : tPack (.mk T ts) with
  | false =>
    rw [g1] at h1; rw [g2] at h2
    rw [if_neg (by simp)]
    obtain ⟨x1, x2, x3, x4, x5, x6, x7⟩ := v
    refine QCalls.of Try.func77 rfl (fun args w => Try.call77 args w) (Nat.le_of_ble_eq_true rfl) [(0, .c (encTy (.mk T ts))), (1, .c (encVl (.mk x1 x2 x3 x4 x5 x6 x7)))] rfl fun β hβ => ?_; have hf := Try.func77
    exact dq
  | true =>
    rw [if_pos ⟨rfl, rfl⟩]
    have h3 := node_calls v (.mk T ts) (tHas_of g1).2.1 (tHas_of g1).2.2 hv
    have hsz := vNode_size v
    have h4 := treeGood_calls (vNode v) (by omega)
    rw [g1] at h1; rw [g2] at h2
    obtain ⟨x1, x2, x3, x4, x5, x6, x7⟩ := v
    rcases hr : vNode (.mk x1 x2 x3 x4 x5 x6 x7) with ⟨y1, y2, y3, y4, y5⟩
    rw [hr] at h3 h4
    by_cases e : tGoodN (.mk y1 y2 y3 y4 y5) = 0
    · rw [if_pos e]
      rw [e] at h4
      refine QCalls.of Try.func77 rfl (fun args w => Try.call77 args w) (Nat.le_of_ble_eq_true rfl) [(0, .c (encTy (.mk T ts))), (1, .c (encVl (.mk x1 x2 x3 x4 x5 x6 x7)))] rfl fun β hβ => ?_; have hf := Try.func77
      exact dq
    · rw [if_neg e]
      have e1 : (tGoodN (.mk y1 y2 y3 y4 y5) != 0) = true := by simpa using e
      generalize tGoodN (.mk y1 y2 y3 y4 y5) = z at h4 e1
      refine QCalls.of Try.func77 rfl (fun args w => Try.call77 args w) (Nat.le_of_ble_eq_true rfl) [(0, .c (encTy (.mk T ts))), (1, .c (encVl (.mk x1 x2 x3 x4 x5 x6 x7)))] rfl fun β hβ => ?_; have hf := Try.func77
      exact dq

set_option maxHeartbeats 0 in
theorem Told_calls (t : Ty) (v : Vl) (hb : tBad t = false) (hh : vHas v t = true) (hv : vlSize v ≤ 1048577) : QCalls Try.prog Try.X 121 [encVl v] (.tup [.str (tTold v).1, .int .i64 (tTold v).2]) := by
  have h3 := node_calls v t hb hh hv
  have hsz := vNode_size v
  have h4 := Encode_calls (vNode v) (by omega)
  rw [tEncode_eq] at h4
  unfold tTold
  obtain ⟨x1, x2, x3, x4, x5, x6, x7⟩ := v
  rcases hr : vNode (.mk x1 x2 x3 x4 x5 x6 x7) with ⟨y1, y2, y3, y4, y5⟩
  rw [hr] at h3 h4
  by_cases e : tGoodN (.mk y1 y2 y3 y4 y5) = 0
  · rw [if_pos e]
    rw [if_pos e] at h4
    simp only at h4
    generalize bytesN (.mk y1 y2 y3 y4 y5) = bs at h4
    by_cases hl : 200 ≤ bs.length
    · rw [if_pos hl]
      have e1 : decide (((bs.length : Nat) : Int) ≥ 200) = true := decide_eq_true (by omega)
      refine QCalls.of Try.func121 rfl (fun args w => Try.call121 args w) (Nat.le_of_ble_eq_true rfl) [(0, .c (encVl (.mk x1 x2 x3 x4 x5 x6 x7)))] rfl fun β hβ => ?_; have hf := Try.func121
      exact dq
    · rw [if_neg hl]
      have e1 : decide (((bs.length : Nat) : Int) ≥ 200) = false := decide_eq_false (by omega)
      refine QCalls.of Try.func121 rfl (fun args w => Try.call121 args w) (Nat.le_of_ble_eq_true rfl) [(0, .c (encVl (.mk x1 x2 x3 x4 x5 x6 x7)))] rfl fun β hβ => ?_; have hf := Try.func121
      repeat' (first | refine AK.runP Try.hX Try.mixed 300 rfl ?_ | refine AK.condTe rfl asm ?_ | refine AK.condFe rfl asm ?_ | (refine AK.condS rfl (fun h => ?_) (fun h => ?_) <;> first | (cases h; done) | rw [h] | skip) | refine AK.retQ Try.hX hf rfl rfl ?_ | refine AK.region Try.mixed rfl ?_ | refine AOps.done ?_ | refine AOps.runS Try.hX kn rfl ?_ | refine AOps.callq kn rfl rfl rfl rfl (h3) ?_ | refine AOps.callq kn rfl rfl rfl rfl (h4) ?_ | refine AOps.concat Try.hX kn rfl rfl rfl rfl rfl (show 1 + bs.length ≤ 9223372036854775807 from by omega) ?_ | refine AOps.box kn rfl rfl rfl rfl rfl rfl ?_ | refine AOps.alloc Try.hX kn rfl rfl rfl rfl rfl rfl rfl ?_ | refine AOps.store Try.hX kn rfl rfl rfl rfl rfl rfl rfl rfl rfl rfl rfl ?_ | refine AOps.buildSlice Try.hX kn rfl rfl rfl rfl rfl rfl rfl rfl rfl rfl rfl rfl ?_ | refine AOps.append Try.hX kn rfl rfl rfl rfl rfl rfl rfl rfl rfl rfl rfl rfl rfl rfl rfl rfl rfl rfl rfl rfl rfl ?_ ?_ | refine AOps.toStr Try.hX kn rfl rfl rfl rfl rfl rfl rfl rfl rfl rfl rfl (by first | exact rfl | exact byte1 _) rfl ?_ | refine AOps.buildArr Try.hX kn rfl rfl rfl rfl rfl rfl rfl rfl ?_ | refine AOps.indexArr Try.hX kn rfl rfl rfl rfl rfl rfl rfl rfl rfl rfl rfl rfl ?_ | refine AOps.runP1 Try.hX kn rfl rfl ?_ | (refine AOps.splitT rfl rfl rfl asm (fun h => ?_) <;> (fail_if_success (cases h; done)) <;> rw [h]) | (refine AOps.splitF rfl rfl rfl asm (fun h => ?_) <;> (fail_if_success (cases h; done)) <;> rw [h]) | (refine AOps.split rfl rfl rfl (fun h => ?_) (fun h => ?_) <;> (fail_if_success (cases h; done)) <;> rw [h]) | refine AOps.drawn (by kernel_rfl) ?_)
      all_goals rfl
  · rw [if_neg e]
    rw [if_neg e] at h4
    simp only at h4
    have e1 : (tGoodN (.mk y1 y2 y3 y4 y5) != 0) = true := by simpa using e
    generalize tGoodN (.mk y1 y2 y3 y4 y5) = z at h4 e1
    refine QCalls.of Try.func121 rfl (fun args w => Try.call121 args w) (Nat.le_of_ble_eq_true rfl) [(0, .c (encVl (.mk x1 x2 x3 x4 x5 x6 x7)))] rfl fun β hβ => ?_; have hf := Try.func121
    exact dq

set_option maxHeartbeats 0 in
theorem Pack_calls (t : Ty) (v : Vl) (ht : tySize t ≤ 1048577) (hv : vlSize v ≤ 1048577) : QCalls Try.prog Try.X 79 [encTy t, encVl v] (.tup [.str (tVPack t v).1, .int .i64 (tVPack t v).2]) := by
  have h1 := Has_calls t v ht hv
  have h2 := Packed_calls t (by omega)
  unfold tVPack
  obtain ⟨T, ts⟩ := t
  cases g1 : tHas (.mk T ts) v with
  | false =>
    rw [g1] at h1
    rw [if_neg (by simp)]
    obtain ⟨x1, x2, x3, x4, x5, x6, x7⟩ := v
    refine QCalls.of Try.func79 rfl (fun args w => Try.call79 args w) (Nat.le_of_ble_eq_true rfl) [(0, .c (encTy (.mk T ts))), (1, .c (encVl (.mk x1 x2 x3 x4 x5 x6 x7)))] rfl fun β hβ => ?_; have hf := Try.func79
    exact dq
  | true =>
  cases g2 : tPack (.mk T ts) with
  | false =>
    rw [g1] at h1; rw [g2] at h2
    rw [if_neg (by simp)]
    obtain ⟨x1, x2, x3, x4, x5, x6, x7⟩ := v
    refine QCalls.of Try.func79 rfl (fun args w => Try.call79 args w) (Nat.le_of_ble_eq_true rfl) [(0, .c (encTy (.mk T ts))), (1, .c (encVl (.mk x1 x2 x3 x4 x5 x6 x7)))] rfl fun β hβ => ?_; have hf := Try.func79
    exact dq
  | true =>
    rw [if_pos ⟨rfl, rfl⟩]
    have h3 := Told_calls (.mk T ts) v (tHas_of g1).2.1 (tHas_of g1).2.2 hv
    rw [g1] at h1; rw [g2] at h2
    generalize tTold v = z at h3
    obtain ⟨x1, x2, x3, x4, x5, x6, x7⟩ := v
    refine QCalls.of Try.func79 rfl (fun args w => Try.call79 args w) (Nat.le_of_ble_eq_true rfl) [(0, .c (encTy (.mk T ts))), (1, .c (encVl (.mk x1 x2 x3 x4 x5 x6 x7)))] rfl fun β hβ => ?_; have hf := Try.func79
    exact dq

set_option maxHeartbeats 0 in
theorem vParse_calls (t : Ty) (n : Nd) (ht : tySize t ≤ 1048577) (hn : ndSize n ≤ 1048577) : QCalls Try.prog Try.X 81 [encTy t, encNd n] (.tup [encVl (tPar t n).1, .int .i64 (tPar t n).2]) := by
  have h1 := Good_calls t ht
  have h2 := treeGood_calls n hn
  obtain ⟨T, ts⟩ := t
  obtain ⟨a1, a2, a3, a4, a5⟩ := n
  cases g1 : tGood (.mk T ts) with
  | false =>
    rw [g1] at h1
    rw [show tPar (.mk T ts) (.mk a1 a2 a3 a4 a5) = (vl0, 1) from by unfold tPar; rw [if_neg (by simp [g1])]]
    refine QCalls.of Try.func81 rfl (fun args w => Try.call81 args w) (Nat.le_of_ble_eq_true rfl) [(0, .c (encTy (.mk T ts))), (1, .c (encNd (.mk a1 a2 a3 a4 a5)))] rfl fun β hβ => ?_; have hf := Try.func81
    exact dq
  | true =>
  rw [g1] at h1
  by_cases g2 : tGoodN (.mk a1 a2 a3 a4 a5) = 0
  rotate_left
  · rw [show tPar (.mk T ts) (.mk a1 a2 a3 a4 a5) = (vl0, 1) from by unfold tPar; rw [if_neg (fun h => g2 h.2.1)]]
    have e1 : (tGoodN (.mk a1 a2 a3 a4 a5) != 0) = true := by simpa using g2
    generalize tGoodN (.mk a1 a2 a3 a4 a5) = z at h2 e1
    refine QCalls.of Try.func81 rfl (fun args w => Try.call81 args w) (Nat.le_of_ble_eq_true rfl) [(0, .c (encTy (.mk T ts))), (1, .c (encNd (.mk a1 a2 a3 a4 a5)))] rfl fun β hβ => ?_; have hf := Try.func81
    exact dq
  rw [g2] at h2
  have h3 := vparse_calls (.mk a1 a2 a3 a4 a5) (.mk T ts) (tGood_bad g1) hn ht
  have hsz := vPar_size (.mk a1 a2 a3 a4 a5) (.mk T ts)
  have h4 := has_calls (vPar (.mk a1 a2 a3 a4 a5) (.mk T ts)).1 (.mk T ts) (tGood_bad g1) (by omega) ht
  rcases hr : vPar (.mk a1 a2 a3 a4 a5) (.mk T ts) with ⟨⟨y1, y2, y3, y4, y5, y6, y7⟩, b⟩
  rw [hr] at h3 h4
  simp only at h3 h4
  cases b with
  | false =>
    rw [show tPar (.mk T ts) (.mk a1 a2 a3 a4 a5) = (vl0, 1) from by unfold tPar; rw [if_neg (by simp [hr])]]
    refine QCalls.of Try.func81 rfl (fun args w => Try.call81 args w) (Nat.le_of_ble_eq_true rfl) [(0, .c (encTy (.mk T ts))), (1, .c (encNd (.mk a1 a2 a3 a4 a5)))] rfl fun β hβ => ?_; have hf := Try.func81
    exact dq
  | true =>
    cases g4 : vHas (.mk y1 y2 y3 y4 y5 y6 y7) (.mk T ts) with
    | false =>
      rw [g4] at h4
      rw [show tPar (.mk T ts) (.mk a1 a2 a3 a4 a5) = (vl0, 1) from by unfold tPar; rw [if_neg (by simp [hr, g4])]]
      refine QCalls.of Try.func81 rfl (fun args w => Try.call81 args w) (Nat.le_of_ble_eq_true rfl) [(0, .c (encTy (.mk T ts))), (1, .c (encNd (.mk a1 a2 a3 a4 a5)))] rfl fun β hβ => ?_; have hf := Try.func81
      exact dq
    | true =>
      rw [g4] at h4
      rw [show tPar (.mk T ts) (.mk a1 a2 a3 a4 a5) = (.mk y1 y2 y3 y4 y5 y6 y7, 0) from by unfold tPar; rw [hr, if_pos ⟨g1, g2, rfl, g4⟩]]
      refine QCalls.of Try.func81 rfl (fun args w => Try.call81 args w) (Nat.le_of_ble_eq_true rfl) [(0, .c (encTy (.mk T ts))), (1, .c (encNd (.mk a1 a2 a3 a4 a5)))] rfl fun β hβ => ?_; have hf := Try.func81
      exact dq

/-- What CutPrefix of one byte answers. -/
def cut5 : List UInt8 → List UInt8 × Bool
  | [] => ([], false)
  | c :: r => if c = 5 then (r, true) else (c :: r, false)
theorem hasPrefix_calls (s : List UInt8) : QCalls Try.prog Try.X 152 [.str s, .str [5]] (.bool (cut5 s).2) := by
  cases s with
  | nil =>
    refine QCalls.of Try.func152 rfl (fun args w => Try.call152 args w) (Nat.le_of_ble_eq_true rfl) [(0, .c (.str [])), (1, .c (.str [5]))] rfl fun β hβ => ?_; have hf := Try.func152
    exact dq
  | cons c r =>
    have e1 : decide ((((c :: r).length : Nat) : Int) ≥ ((([5] : List UInt8).length : Nat) : Int)) = true := decide_eq_true (by simp only [List.length_cons, List.length_nil]; omega)
    have e2 : (cut5 (c :: r)).2 = ([c] == [5]) := by
      simp only [cut5]
      by_cases h : c = 5
      · rw [if_pos h, h]; rfl
      · rw [if_neg h]; simp [h]
    rw [e2]
    refine QCalls.of Try.func152 rfl (fun args w => Try.call152 args w) (Nat.le_of_ble_eq_true rfl) [(0, .c (.str (c :: r))), (1, .c (.str [5]))] rfl fun β hβ => ?_; have hf := Try.func152
    exact dq
theorem cutPrefixL_calls (s : List UInt8) : QCalls Try.prog Try.X 148 [.str s, .str [5]] (.tup [.str (cut5 s).1, .bool (cut5 s).2]) := by
  have h1 := hasPrefix_calls s
  cases s with
  | nil =>
    refine QCalls.of Try.func148 rfl (fun args w => Try.call148 args w) (Nat.le_of_ble_eq_true rfl) [(0, .c (.str [])), (1, .c (.str [5]))] rfl fun β hβ => ?_; have hf := Try.func148
    exact dq
  | cons c r =>
    by_cases h : c = 5
    · subst h
      rw [show cut5 (5 :: r) = (r, true) from by simp [cut5]] at h1 ⊢
      simp only at h1
      refine QCalls.of Try.func148 rfl (fun args w => Try.call148 args w) (Nat.le_of_ble_eq_true rfl) [(0, .c (.str (5 :: r))), (1, .c (.str [5]))] rfl fun β hβ => ?_; have hf := Try.func148
      exact dq
    · rw [show cut5 (c :: r) = (c :: r, false) from by simp [cut5, h]] at h1 ⊢
      simp only at h1
      refine QCalls.of Try.func148 rfl (fun args w => Try.call148 args w) (Nat.le_of_ble_eq_true rfl) [(0, .c (.str (c :: r))), (1, .c (.str [5]))] rfl fun β hβ => ?_; have hf := Try.func148
      exact dq
theorem cutPrefix_calls (s : List UInt8) : QCalls Try.prog Try.X 125 [.str s, .str [5]] (.tup [.str (cut5 s).1, .bool (cut5 s).2]) := by
  have h1 := cutPrefixL_calls s
  generalize cut5 s = z at h1
  refine QCalls.of Try.func125 rfl (fun args w => Try.call125 args w) (Nat.le_of_ble_eq_true rfl) [(0, .c (.str s)), (1, .c (.str [5]))] rfl fun β hβ => ?_; have hf := Try.func125
  exact dq

set_option maxHeartbeats 0 in
theorem Unpack_calls (t : Ty) (s : List UInt8) (ht : tySize t ≤ 1048577) : QCalls Try.prog Try.X 83 [encTy t, .str s] (.tup [encVl (tUnpack t s).1, .int .i64 (tUnpack t s).2]) := by
  have h1 := cutPrefix_calls s
  have h2 := Packed_calls t (by omega)
  obtain ⟨T, ts⟩ := t
  cases s with
  | nil =>
    rw [tUnpack_nil]
    refine QCalls.of Try.func83 rfl (fun args w => Try.call83 args w) (Nat.le_of_ble_eq_true rfl) [(0, .c (encTy (.mk T ts))), (1, .c (.str []))] rfl fun β hβ => ?_; have hf := Try.func83
    exact dq
  | cons c r =>
  by_cases hc : c = 5
  rotate_left
  · rw [tUnpack_no _ _ _ (fun h => hc h.1)]
    rw [show cut5 (c :: r) = (c :: r, false) from by simp [cut5, hc]] at h1
    simp only at h1
    refine QCalls.of Try.func83 rfl (fun args w => Try.call83 args w) (Nat.le_of_ble_eq_true rfl) [(0, .c (encTy (.mk T ts))), (1, .c (.str (c :: r)))] rfl fun β hβ => ?_; have hf := Try.func83
    exact dq
  subst hc
  rw [show cut5 (5 :: r) = (r, true) from by simp [cut5]] at h1
  simp only at h1
  by_cases hl : (5 :: r : List UInt8).length ≤ 200
  rotate_left
  · rw [tUnpack_no _ _ _ (fun h => hl h.2.1)]
    have e1 : decide ((((5 :: r : List UInt8).length : Nat) : Int) > 200) = true := decide_eq_true (by omega)
    have e2 : (bif false then true else decide ((((5 :: r : List UInt8).length : Nat) : Int) > 200)) = true := e1
    refine QCalls.of Try.func83 rfl (fun args w => Try.call83 args w) (Nat.le_of_ble_eq_true rfl) [(0, .c (encTy (.mk T ts))), (1, .c (.str (5 :: r)))] rfl fun β hβ => ?_; have hf := Try.func83
    exact dq
  have e1 : decide ((((5 :: r : List UInt8).length : Nat) : Int) > 200) = false := decide_eq_false (by omega)
  cases g2 : tPack (.mk T ts) with
  | false =>
    rw [g2] at h2
    rw [tUnpack_no _ _ _ (fun h => by rw [g2] at h; exact absurd h.2.2.1 (by simp))]
    refine QCalls.of Try.func83 rfl (fun args w => Try.call83 args w) (Nat.le_of_ble_eq_true rfl) [(0, .c (encTy (.mk T ts))), (1, .c (.str (5 :: r)))] rfl fun β hβ => ?_; have hf := Try.func83
    exact dq
  | true =>
  rw [g2] at h2
  have h3 := Decode_calls r
  by_cases hd : (tDecode r).2 = 0
  rotate_left
  · rw [tUnpack_no _ _ _ (fun h => hd h.2.2.2)]
    rcases hr : tDecode r with ⟨⟨a1, a2, a3, a4, a5⟩, e⟩
    rw [hr] at h3 hd
    simp only at h3 hd
    have e3 : (e != 0) = true := by simpa using hd
    refine QCalls.of Try.func83 rfl (fun args w => Try.call83 args w) (Nat.le_of_ble_eq_true rfl) [(0, .c (encTy (.mk T ts))), (1, .c (.str (5 :: r)))] rfl fun β hβ => ?_; have hf := Try.func83
    exact dq
  rw [tUnpack_go _ _ ⟨hl, g2, hd⟩]
  have hsm := tDecode_small (s := r) (n := 200) (by simp only [List.length_cons] at hl; omega)
  have h4 := vParse_calls (.mk T ts) (tDecode r).1 ht (by omega)
  rcases hr : tDecode r with ⟨⟨a1, a2, a3, a4, a5⟩, e⟩
  rw [hr] at h3 h4 hd
  simp only at h3 h4 hd
  subst hd
  rcases hp : tPar (.mk T ts) (.mk a1 a2 a3 a4 a5) with ⟨⟨y1, y2, y3, y4, y5, y6, y7⟩, e2⟩
  rw [hp] at h4
  refine QCalls.of Try.func83 rfl (fun args w => Try.call83 args w) (Nat.le_of_ble_eq_true rfl) [(0, .c (encTy (.mk T ts))), (1, .c (.str (5 :: r)))] rfl fun β hβ => ?_; have hf := Try.func83
  exact dq
end Go.Proofs
