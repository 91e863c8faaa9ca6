/- The laws ValueBack and ValueOnly. -/
import Derived.Test.YtcinhjfonmjneaaVal11
set_option linter.unusedVariables false
set_option linter.unusedSimpArgs false
set_option maxRecDepth 100000
namespace Go.Proofs
open Go.Abs
theorem unpack_cases (t : Ty) (s : List UInt8) : tUnpack t s = (vl0, 1) ∨ ∃ w, tUnpack t s = (w, 0) ∧ tHas t w = true ∧ tVPack t w = (s, 0) ∧ vlSize w ≤ 1000 := by
  cases s with
  | nil => left; rfl
  | cons c r =>
    by_cases h : c = 5 ∧ (c :: r).length ≤ 200 ∧ tPack t = true ∧ (tDecode r).2 = 0
    · obtain ⟨rfl, hl, hp, hd⟩ := h
      rw [tUnpack_go t r ⟨hl, hp, hd⟩]
      by_cases h2 : (tPar t (tDecode r).1).2 = 0
      · right
        obtain ⟨k1, k2, k3⟩ := tPar_only h2
        have k3 := k3 hp
        obtain ⟨d1, d2⟩ := tDecode_only hd
        refine ⟨(tPar t (tDecode r).1).1, pair_of rfl h2, k1, ?_, ?_⟩
        · unfold tVPack tTold
          rw [if_pos ⟨k1, hp⟩, k3, if_pos d1, d2]
          rw [if_neg (by simp only [List.length_cons] at hl; omega)]
        · have h1 := tPar_size t (tDecode r).1
          have h2 := tDecode_small (s := r) (n := 200) (by simp only [List.length_cons] at hl; omega)
          omega
      · left; exact tPar_bad h2
    · left; exact tUnpack_no t c r h
attribute [local irreducible] AK AOps QCalls ECalls vNode vNodes vElts tHas vHas tGoodN tDecode bytesN vPar tGood tPack tPar tUnpack tVNode tVPack tTold vSame ndSame

set_option maxHeartbeats 0 in
theorem ValueBack_calls (t : Ty) (hw : tyWf t) (ht : tySize t ≤ 1048577) (v : Vl) (hwv : vlWf v) (hv : vlSize v ≤ 1048577) : QCalls Try.prog Try.X 22 [encTy t, encVl v] (.bool true) := by
  have h1 := vNode_calls t v ht hv
  have h2 := Pack_calls t v ht hv
  have h3 := worthK_calls
  have h4 := vSame_calls v v (by omega)
  rw [(vSame_iff _ _).2 rfl] at h4
  by_cases g : tHas t v = true ∧ tPack t = true
  rotate_left
  · rw [show tVNode t v = (nd0, 5) from by unfold tVNode; rw [if_neg g]] at h1
    rw [show tVPack t v = ([], 5) from by unfold tVPack; rw [if_neg g]] at h2
    simp only at h1 h2
    obtain ⟨T, ts⟩ := t
    obtain ⟨x1, x2, x3, x4, x5, x6, x7⟩ := v
    refine QCalls.of Try.func22 rfl (fun args w => Try.call22 args w) (Nat.le_of_ble_eq_true rfl) [(0, .c (encTy (.mk T ts))), (1, .c (encVl (.mk x1 x2 x3 x4 x5 x6 x7)))] rfl fun β hβ => ?_; have hf := Try.func22
    exact dq
  by_cases e : tGoodN (vNode v) = 0
  rotate_left
  · rw [show tVNode t v = (nd0, tGoodN (vNode v)) from by unfold tVNode; rw [if_pos g, if_neg e]] at h1
    rw [show tVPack t v = ([], tGoodN (vNode v)) from by unfold tVPack tTold; rw [if_pos g, if_neg e]] at h2
    have e1 : (tGoodN (vNode v) == 0) = false := by simpa using e
    have e2 : (tGoodN (vNode v) != 0) = true := by simpa using e
    generalize tGoodN (vNode v) = z at h1 h2 e1 e2
    simp only at h1 h2
    obtain ⟨T, ts⟩ := t
    obtain ⟨x1, x2, x3, x4, x5, x6, x7⟩ := v
    refine QCalls.of Try.func22 rfl (fun args w => Try.call22 args w) (Nat.le_of_ble_eq_true rfl) [(0, .c (encTy (.mk T ts))), (1, .c (encVl (.mk x1 x2 x3 x4 x5 x6 x7)))] rfl fun β hβ => ?_; have hf := Try.func22
    exact dq
  rw [show tVNode t v = (vNode v, 0) from by unfold tVNode; rw [if_pos g, if_pos e]] at h1
  have hsz := vNode_size v
  have h5 := vParse_calls t (vNode v) ht (by omega)
  rw [tPar_node g.1 g.2 e] at h5
  have hdc := tDecode_bytes e
  have hpn := tPar_node g.1 g.2 e
  by_cases hl : 200 ≤ (bytesN (vNode v)).length
  · rw [show tVPack t v = ([], 4) from by unfold tVPack tTold; rw [if_pos g, if_pos e, if_pos hl]] at h2
    simp only at h1 h2 h5
    rcases hr : vNode v with ⟨y1, y2, y3, y4, y5⟩
    rw [hr] at h1 h5
    obtain ⟨T, ts⟩ := t
    obtain ⟨x1, x2, x3, x4, x5, x6, x7⟩ := v
    refine QCalls.of Try.func22 rfl (fun args w => Try.call22 args w) (Nat.le_of_ble_eq_true rfl) [(0, .c (encTy (.mk T ts))), (1, .c (encVl (.mk x1 x2 x3 x4 x5 x6 x7)))] rfl fun β hβ => ?_; have hf := Try.func22
    exact dq
  · rw [show tVPack t v = (5 :: bytesN (vNode v), 0) from by unfold tVPack tTold; rw [if_pos g, if_pos e, if_neg hl]] at h2
    have h6 := Unpack_calls t (5 :: bytesN (vNode v)) ht
    rw [tUnpack_go t _ ⟨by simp only [List.length_cons]; omega, g.2, by rw [hdc]⟩, hdc, hpn] at h6
    have e3 : decide ((((5 :: bytesN (vNode v)).length : Nat) : Int) ≤ 200) = true := decide_eq_true (by simp only [List.length_cons]; omega)
    simp only at h1 h2 h5 h6
    generalize bytesN (vNode v) = bs at h2 h6 e3
    rcases hr : vNode v with ⟨y1, y2, y3, y4, y5⟩
    rw [hr] at h1 h5
    obtain ⟨T, ts⟩ := t
    obtain ⟨x1, x2, x3, x4, x5, x6, x7⟩ := v
    refine QCalls.of Try.func22 rfl (fun args w => Try.call22 args w) (Nat.le_of_ble_eq_true rfl) [(0, .c (encTy (.mk T ts))), (1, .c (encVl (.mk x1 x2 x3 x4 x5 x6 x7)))] rfl fun β hβ => ?_; have hf := Try.func22
    repeat' (first | refine AK.runP Try.hX Try.mixed 300 rfl ?_ | refine AK.condTe rfl asm ?_ | refine AK.condFe rfl asm ?_ | (refine AK.condS rfl (fun h => ?_) (fun h => ?_) <;> first | (cases h; done) | rw [h] | skip) | refine AK.retQ Try.hX hf rfl rfl ?_ | refine AK.region Try.mixed rfl ?_ | refine AOps.done ?_ | refine AOps.runS Try.hX kn rfl ?_ | refine AOps.callq kn rfl rfl rfl rfl (h1) ?_ | refine AOps.callq kn rfl rfl rfl rfl (h2) ?_ | refine AOps.callq kn rfl rfl rfl rfl (h3) ?_ | refine AOps.callq kn rfl rfl rfl rfl (h4) ?_ | refine AOps.callq kn rfl rfl rfl rfl (h5) ?_ | refine AOps.callq kn rfl rfl rfl rfl (h6) ?_ | refine AOps.box kn rfl rfl rfl rfl rfl rfl ?_ | refine AOps.alloc Try.hX kn rfl rfl rfl rfl rfl rfl rfl ?_ | refine AOps.store Try.hX kn rfl rfl rfl rfl rfl rfl rfl rfl rfl rfl rfl ?_ | refine AOps.buildSlice Try.hX kn rfl rfl rfl rfl rfl rfl rfl rfl rfl rfl rfl rfl ?_ | refine AOps.append Try.hX kn rfl rfl rfl rfl rfl rfl rfl rfl rfl rfl rfl rfl rfl rfl rfl rfl rfl rfl rfl rfl rfl ?_ ?_ | refine AOps.toStr Try.hX kn rfl rfl rfl rfl rfl rfl rfl rfl rfl rfl rfl (by first | exact rfl | exact byte1 _) rfl ?_ | refine AOps.buildArr Try.hX kn rfl rfl rfl rfl rfl rfl rfl rfl ?_ | refine AOps.indexArr Try.hX kn rfl rfl rfl rfl rfl rfl rfl rfl rfl rfl rfl rfl ?_ | refine AOps.runP1 Try.hX kn rfl rfl ?_ | (refine AOps.splitT rfl rfl rfl asm (fun h => ?_) <;> (fail_if_success (cases h; done)) <;> rw [h]) | (refine AOps.splitF rfl rfl rfl asm (fun h => ?_) <;> (fail_if_success (cases h; done)) <;> rw [h]) | (refine AOps.split rfl rfl rfl (fun h => ?_) (fun h => ?_) <;> (fail_if_success (cases h; done)) <;> rw [h]) | refine AOps.drawn (by kernel_rfl) ?_)
    all_goals first
      | rfl
      | (show (_ : CV) = _; exact congrArg CV.bool e3)

set_option maxHeartbeats 0 in
theorem ValueOnly_calls (t : Ty) (hw : tyWf t) (ht : tySize t ≤ 1048577) (n : Nd) (hwn : ndWf n) (hn : ndSize n ≤ 1048577) (s : List UInt8) (hs : s.length ≤ 1048576) : QCalls Try.prog Try.X 23 [encTy t, encNd n, .str s] (.bool true) := by
  have h1 := vParse_calls t n ht hn
  have h2 := worthK_calls
  have h3 := Unpack_calls t s ht
  have hp := Packed_calls t (by omega)
  have hz := vSame_calls vl0 vl0 (by decide)
  rw [(vSame_iff _ _).2 rfl] at hz
  have hpo := @tPar_only t n
  have hpb := @tPar_bad t n
  have hps := tPar_size t n
  -- the first half's contracts, by what Parse says
  by_cases e : (tPar t n).2 = 0
  · obtain ⟨k1, k2, k3⟩ := hpo e
    rcases hr : tPar t n with ⟨v, e'⟩
    rw [hr] at h1 e k1 k3 hps
    simp only at h1 e k1 k3 hps
    subst e
    have a1 := vNode_calls t v ht (by omega)
    have a2 := Has_calls t v ht (by omega)
    rw [k1] at a2
    have a3 := sameNodeK_calls n n (by omega)
    rw [(ndSame_iff _ _).2 rfl] at a3
    have hvn : tPack t = true → tVNode t v = (n, 0) := fun hpk => by unfold tVNode; rw [if_pos ⟨k1, hpk⟩, k3 hpk, if_pos k2]
    clear hpo hpb k3
    obtain ⟨v1, v2, v3, v4, v5, v6, v7⟩ := v
    obtain ⟨a, b, c, d, f⟩ := n
    obtain ⟨T, ts⟩ := t
    cases hpk : tPack (.mk T ts) with
    | true =>
      rw [hvn hpk] at a1
      rw [hpk] at hp
      simp only at a1
      rcases unpack_cases (.mk T ts) s with q | ⟨w, q1, q2, q3, q4⟩
      · rw [q] at h3
        simp only at h3
        refine QCalls.of Try.func23 rfl (fun args w => Try.call23 args w) (Nat.le_of_ble_eq_true rfl) [(0, .c (encTy (.mk T ts))), (1, .c (encNd (.mk a b c d f))), (2, .c (.str s))] rfl fun β hβ => ?_; have hf := Try.func23
        exact dq
      · rw [q1] at h3
        have b1 := Pack_calls (.mk T ts) w ht (by omega)
        rw [q3] at b1
        have b2 := Has_calls (.mk T ts) w ht (by omega)
        rw [q2] at b2
        have b3 : (s == s) = true := by simp
        simp only at h3 b1
        obtain ⟨w1, w2, w3, w4, w5, w6, w7⟩ := w
        refine QCalls.of Try.func23 rfl (fun args w => Try.call23 args w) (Nat.le_of_ble_eq_true rfl) [(0, .c (encTy (.mk T ts))), (1, .c (encNd (.mk a b c d f))), (2, .c (.str s))] rfl fun β hβ => ?_; have hf := Try.func23
        exact dq
    | false =>
      rw [show tVNode (.mk T ts) (.mk v1 v2 v3 v4 v5 v6 v7) = (nd0, 5) from by unfold tVNode; rw [if_neg (by simp [hpk])]] at a1
      rw [hpk] at hp
      simp only at a1
      have q : tUnpack (.mk T ts) s = (vl0, 1) := by
        cases s with
        | nil => exact tUnpack_nil _
        | cons c r => exact tUnpack_no _ _ _ (fun h => by rw [hpk] at h; exact absurd h.2.2.1 (by simp))
      rw [q] at h3
      simp only at h3
      refine QCalls.of Try.func23 rfl (fun args w => Try.call23 args w) (Nat.le_of_ble_eq_true rfl) [(0, .c (encTy (.mk T ts))), (1, .c (encNd (.mk a b c d f))), (2, .c (.str s))] rfl fun β hβ => ?_; have hf := Try.func23
      exact dq
  · rw [hpb e] at h1
    simp only at h1
    clear hpo hpb hps e
    obtain ⟨a, b, c, d, f⟩ := n
    obtain ⟨T, ts⟩ := t
    rcases unpack_cases (.mk T ts) s with q | ⟨w, q1, q2, q3, q4⟩
    · rw [q] at h3
      simp only at h3
      refine QCalls.of Try.func23 rfl (fun args w => Try.call23 args w) (Nat.le_of_ble_eq_true rfl) [(0, .c (encTy (.mk T ts))), (1, .c (encNd (.mk a b c d f))), (2, .c (.str s))] rfl fun β hβ => ?_; have hf := Try.func23
      exact dq
    · rw [q1] at h3
      have b1 := Pack_calls (.mk T ts) w ht (by omega)
      rw [q3] at b1
      have b2 := Has_calls (.mk T ts) w ht (by omega)
      rw [q2] at b2
      have b3 : (s == s) = true := by simp
      simp only at h3 b1
      obtain ⟨w1, w2, w3, w4, w5, w6, w7⟩ := w
      refine QCalls.of Try.func23 rfl (fun args w => Try.call23 args w) (Nat.le_of_ble_eq_true rfl) [(0, .c (encTy (.mk T ts))), (1, .c (encNd (.mk a b c d f))), (2, .c (.str s))] rfl fun β hβ => ?_; have hf := Try.func23
      exact dq
end Go.Proofs
