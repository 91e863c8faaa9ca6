/- What kind.Parse, node and Node answer, and the sentences that ask whether kind answers at all. -/
-- WIDE
-- OLDASM
import Derived.Test.YtcinhjfonmjneaaKind7
set_option linter.unusedVariables false
set_option linter.unusedSimpArgs false
namespace Go.Proofs
open Go.Abs

mutual
theorem kParse_size : ∀ (n : Nd) (d left : Int) (t : Ty) (m : Int), kParse n d left = (some t, m) → tySize t ≤ ndSize n
  | .mk kind nn p s args, d, left, t, m, h => by
    simp only [kParse] at h
    split at h
    · simp at h
    · rcases hk : kParses args (d + 1) (left - 1) with ⟨b, m'⟩
      rw [hk] at h
      cases b with
      | none => simp at h
      | some l =>
        simp at h
        have := kParses_size args (d + 1) (left - 1) l m' hk
        rw [← h.1]; simp only [tySize, ndSize]; omega
theorem kParses_size : ∀ (l : List Nd) (d left : Int) (r : List Ty) (m : Int), kParses l d left = (some r, m) → tysSize r ≤ ndsSize l
  | [], d, left, r, m, h => by simp [kParses] at h; rw [h.1]; simp [tysSize]
  | x :: l, d, left, r, m, h => by
    simp only [kParses] at h
    rcases hk : kParse x d left with ⟨b, m'⟩
    rw [hk] at h
    cases b with
    | none => simp at h
    | some t =>
      simp only at h
      rcases hk2 : kParses l d m' with ⟨b2, m2⟩
      rw [hk2] at h
      cases b2 with
      | none => simp at h
      | some q =>
        simp at h
        have h1 := kParse_size x d left t m' hk
        have h2 := kParses_size l d m' q m2 hk2
        rw [← h.1]; simp only [tysSize, ndsSize]; omega
end

theorem tParse_nat : tParse (.mk 2 0 4 [] []) = (.mk 4 [], 0) := by simp [tParse, kParse, kParses, arity, tGood, kGood, kGoods]
theorem tGood_nat : tGood (.mk 4 []) = true := by simp [arity, tGood, kGood, kGoods]

attribute [local irreducible] AK AOps QCalls ECalls kGood kGoods headComp tComp kParse kParses tGood

set_option maxHeartbeats 0 in
theorem Parse_calls (n : Nd) (hn : ndSize n ≤ 1048577) : QCalls Try.prog Try.X 28 [encNd n] (.tup [encTy (tParse n).1, .int .i64 (tParse n).2]) := by
  have hq := parse_calls n 1 300 hn (by omega) (by omega) (by omega) (by omega)
  rcases hr : kParse n 1 300 with ⟨b, m⟩
  rw [hr] at hq
  have hsz := kParse_size n 1 300
  rw [hr] at hsz
  cases b with
  | none =>
    have hP : tParse n = (.mk 0 [], 1) := by simp only [tParse, hr]
    rw [hP]
    simp only [optTy, Option.isSome_none] at hq
    obtain ⟨k, a, p, s, l⟩ := n
    refine QCalls.of Try.func28 rfl (fun args w => Try.call28 args w) (Nat.le_of_ble_eq_true rfl) [(0, .c (encNd (.mk k a p s l)))] rfl fun β hβ => ?_; have hf := Try.func28
    repeat' (first | refine AK.runP Try.hX Try.mixed 300 rfl ?_ | refine AK.condTe rfl asmo ?_ | refine AK.condFe rfl asmo ?_ | (refine AK.condS rfl (fun h => ?_) (fun h => ?_) <;> first | (cases h; done) | rw [h] | skip) | refine AK.retQ Try.hX hf rfl rfl ?_ | refine AK.region Try.mixed rfl ?_ | refine AOps.done ?_ | refine AOps.runS Try.hX kn rfl ?_ | refine AOps.calle kn rfl rfl (hq) rfl (by (repeat' (first | exact rfl | exact trivial | refine ⟨_, _, rfl, ?_, ?_⟩ | refine ⟨_, _, _, rfl, rfl, ?_, ?_⟩)); done) rfl rfl rfl rfl rfl rfl rfl rfl rfl rfl rfl rfl rfl rfl ?_ | refine AOps.box kn rfl rfl rfl rfl rfl rfl ?_ | refine AOps.alloc Try.hX kn rfl rfl rfl rfl rfl rfl rfl ?_ | refine AOps.store Try.hX kn rfl rfl rfl rfl rfl rfl rfl rfl rfl rfl rfl ?_ | refine AOps.buildSlice Try.hX kn rfl rfl rfl rfl rfl rfl rfl rfl rfl rfl rfl rfl ?_ | refine AOps.append Try.hX kn rfl rfl rfl rfl rfl rfl rfl rfl rfl rfl rfl rfl rfl rfl rfl rfl rfl rfl rfl rfl rfl ?_ ?_ | refine AOps.toStr Try.hX kn rfl rfl rfl rfl rfl rfl rfl rfl rfl rfl rfl (by first | exact rfl | exact byte1 _) rfl ?_ | refine AOps.buildArr Try.hX kn rfl rfl rfl rfl rfl rfl rfl rfl ?_ | refine AOps.indexArr Try.hX kn rfl rfl rfl rfl rfl rfl rfl rfl rfl rfl rfl rfl ?_ | refine AOps.runP1 Try.hX kn rfl rfl ?_ | (refine AOps.splitT rfl rfl rfl asmo (fun h => ?_) <;> (fail_if_success (cases h; done)) <;> rw [h]) | (refine AOps.splitF rfl rfl rfl asmo (fun h => ?_) <;> (fail_if_success (cases h; done)) <;> rw [h]) | (refine AOps.split rfl rfl rfl (fun h => ?_) (fun h => ?_) <;> (fail_if_success (cases h; done)) <;> rw [h]) | refine AOps.drawn (by kernel_rfl) ?_)
    rfl
  | some t =>
    have hg := Good_calls t (Nat.le_trans (hsz t m rfl) hn)
    have hP : tParse n = if tGood t then (t, 0) else (.mk 0 [], 1) := by simp only [tParse, hr]
    rw [hP]
    obtain ⟨U, us⟩ := t
    simp only [optTy, Option.isSome_some] at hq
    obtain ⟨k, a, p, s, l⟩ := n
    cases hb : tGood (.mk U us)
    all_goals
      rw [hb] at hg
      refine QCalls.of Try.func28 rfl (fun args w => Try.call28 args w) (Nat.le_of_ble_eq_true rfl) [(0, .c (encNd (.mk k a p s l)))] rfl fun β hβ => ?_; have hf := Try.func28
      repeat' (first | refine AK.runP Try.hX Try.mixed 300 rfl ?_ | refine AK.condTe rfl asmo ?_ | refine AK.condFe rfl asmo ?_ | (refine AK.condS rfl (fun h => ?_) (fun h => ?_) <;> first | (cases h; done) | rw [h] | skip) | refine AK.retQ Try.hX hf rfl rfl ?_ | refine AK.region Try.mixed rfl ?_ | refine AOps.done ?_ | refine AOps.runS Try.hX kn rfl ?_ | refine AOps.calle kn rfl rfl (hq) rfl (by (repeat' (first | exact rfl | exact trivial | refine ⟨_, _, rfl, ?_, ?_⟩ | refine ⟨_, _, _, rfl, rfl, ?_, ?_⟩)); done) rfl rfl rfl rfl rfl rfl rfl rfl rfl rfl rfl rfl rfl rfl ?_ | refine AOps.callq kn rfl rfl rfl rfl (hg) ?_ | refine AOps.box kn rfl rfl rfl rfl rfl rfl ?_ | refine AOps.alloc Try.hX kn rfl rfl rfl rfl rfl rfl rfl ?_ | refine AOps.store Try.hX kn rfl rfl rfl rfl rfl rfl rfl rfl rfl rfl rfl ?_ | refine AOps.buildSlice Try.hX kn rfl rfl rfl rfl rfl rfl rfl rfl rfl rfl rfl rfl ?_ | refine AOps.append Try.hX kn rfl rfl rfl rfl rfl rfl rfl rfl rfl rfl rfl rfl rfl rfl rfl rfl rfl rfl rfl rfl rfl ?_ ?_ | refine AOps.toStr Try.hX kn rfl rfl rfl rfl rfl rfl rfl rfl rfl rfl rfl (by first | exact rfl | exact byte1 _) rfl ?_ | refine AOps.buildArr Try.hX kn rfl rfl rfl rfl rfl rfl rfl rfl ?_ | refine AOps.indexArr Try.hX kn rfl rfl rfl rfl rfl rfl rfl rfl rfl rfl rfl rfl ?_ | refine AOps.runP1 Try.hX kn rfl rfl ?_ | (refine AOps.splitT rfl rfl rfl asmo (fun h => ?_) <;> (fail_if_success (cases h; done)) <;> rw [h]) | (refine AOps.splitF rfl rfl rfl asmo (fun h => ?_) <;> (fail_if_success (cases h; done)) <;> rw [h]) | (refine AOps.split rfl rfl rfl (fun h => ?_) (fun h => ?_) <;> (fail_if_success (cases h; done)) <;> rw [h]) | refine AOps.drawn (by kernel_rfl) ?_)
      rfl

theorem namesL_calls : QCalls Try.prog Try.X 31 [] (.bool true) := by
  have h1 := Parse_calls (.mk 2 0 4 [] []) (by simp [ndSize, ndsSize])
  have h2 := tParse_nat
  have h3 := Good_calls (.mk 4 []) (by simp [tySize, tysSize])
  have h4 := tGood_nat
  rw [h2] at h1; rw [h4] at h3
  refine QCalls.of Try.func31 rfl (fun args w => Try.call31 args w) (Nat.le_of_ble_eq_true rfl) [] rfl fun β hβ => ?_; have hf := Try.func31
  repeat' (first | refine AK.runP Try.hX Try.mixed 300 rfl ?_ | refine AK.condTe rfl asmo ?_ | refine AK.condFe rfl asmo ?_ | (refine AK.condS rfl (fun h => ?_) (fun h => ?_) <;> first | (cases h; done) | rw [h] | skip) | refine AK.retQ Try.hX hf rfl rfl ?_ | refine AK.region Try.mixed rfl ?_ | refine AOps.done ?_ | refine AOps.runS Try.hX kn rfl ?_ | refine AOps.callq kn rfl rfl rfl rfl (h1) ?_ | refine AOps.callq kn rfl rfl rfl rfl (h3) ?_ | refine AOps.box kn rfl rfl rfl rfl rfl rfl ?_ | refine AOps.alloc Try.hX kn rfl rfl rfl rfl rfl rfl rfl ?_ | refine AOps.store Try.hX kn rfl rfl rfl rfl rfl rfl rfl rfl rfl rfl rfl ?_ | refine AOps.buildSlice Try.hX kn rfl rfl rfl rfl rfl rfl rfl rfl rfl rfl rfl rfl ?_ | refine AOps.append Try.hX kn rfl rfl rfl rfl rfl rfl rfl rfl rfl rfl rfl rfl rfl rfl rfl rfl rfl rfl rfl rfl rfl ?_ ?_ | refine AOps.toStr Try.hX kn rfl rfl rfl rfl rfl rfl rfl rfl rfl rfl rfl (by first | exact rfl | exact byte1 _) rfl ?_ | refine AOps.buildArr Try.hX kn rfl rfl rfl rfl rfl rfl rfl rfl ?_ | refine AOps.indexArr Try.hX kn rfl rfl rfl rfl rfl rfl rfl rfl rfl rfl rfl rfl ?_ | refine AOps.runP1 Try.hX kn rfl rfl ?_ | (refine AOps.splitT rfl rfl rfl asmo (fun h => ?_) <;> (fail_if_success (cases h; done)) <;> rw [h]) | (refine AOps.splitF rfl rfl rfl asmo (fun h => ?_) <;> (fail_if_success (cases h; done)) <;> rw [h]) | (refine AOps.split rfl rfl rfl (fun h => ?_) (fun h => ?_) <;> (fail_if_success (cases h; done)) <;> rw [h]) | refine AOps.drawn (by kernel_rfl) ?_)
  rfl
theorem namesK_calls : QCalls Try.prog Try.X 48 [] (.bool true) := by
  have h1 := Parse_calls (.mk 2 0 4 [] []) (by simp [ndSize, ndsSize])
  have h2 := tParse_nat
  have h3 := Good_calls (.mk 4 []) (by simp [tySize, tysSize])
  have h4 := tGood_nat
  rw [h2] at h1; rw [h4] at h3
  refine QCalls.of Try.func48 rfl (fun args w => Try.call48 args w) (Nat.le_of_ble_eq_true rfl) [] rfl fun β hβ => ?_; have hf := Try.func48
  repeat' (first | refine AK.runP Try.hX Try.mixed 300 rfl ?_ | refine AK.condTe rfl asmo ?_ | refine AK.condFe rfl asmo ?_ | (refine AK.condS rfl (fun h => ?_) (fun h => ?_) <;> first | (cases h; done) | rw [h] | skip) | refine AK.retQ Try.hX hf rfl rfl ?_ | refine AK.region Try.mixed rfl ?_ | refine AOps.done ?_ | refine AOps.runS Try.hX kn rfl ?_ | refine AOps.callq kn rfl rfl rfl rfl (h1) ?_ | refine AOps.callq kn rfl rfl rfl rfl (h3) ?_ | refine AOps.box kn rfl rfl rfl rfl rfl rfl ?_ | refine AOps.alloc Try.hX kn rfl rfl rfl rfl rfl rfl rfl ?_ | refine AOps.store Try.hX kn rfl rfl rfl rfl rfl rfl rfl rfl rfl rfl rfl ?_ | refine AOps.buildSlice Try.hX kn rfl rfl rfl rfl rfl rfl rfl rfl rfl rfl rfl rfl ?_ | refine AOps.append Try.hX kn rfl rfl rfl rfl rfl rfl rfl rfl rfl rfl rfl rfl rfl rfl rfl rfl rfl rfl rfl rfl rfl ?_ ?_ | refine AOps.toStr Try.hX kn rfl rfl rfl rfl rfl rfl rfl rfl rfl rfl rfl (by first | exact rfl | exact byte1 _) rfl ?_ | refine AOps.buildArr Try.hX kn rfl rfl rfl rfl rfl rfl rfl rfl ?_ | refine AOps.indexArr Try.hX kn rfl rfl rfl rfl rfl rfl rfl rfl rfl rfl rfl rfl ?_ | refine AOps.runP1 Try.hX kn rfl rfl ?_ | (refine AOps.splitT rfl rfl rfl asmo (fun h => ?_) <;> (fail_if_success (cases h; done)) <;> rw [h]) | (refine AOps.splitF rfl rfl rfl asmo (fun h => ?_) <;> (fail_if_success (cases h; done)) <;> rw [h]) | (refine AOps.split rfl rfl rfl (fun h => ?_) (fun h => ?_) <;> (fail_if_success (cases h; done)) <;> rw [h]) | refine AOps.drawn (by kernel_rfl) ?_)
  rfl
end Go.Proofs
