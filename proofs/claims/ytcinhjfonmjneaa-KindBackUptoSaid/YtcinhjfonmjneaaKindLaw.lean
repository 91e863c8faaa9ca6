/- What KindParses and KindTells of touchstonelaw and KindBack of touchstonekeep answer: true, for all arguments. -/
import Derived.Test.YtcinhjfonmjneaaKind11
import Derived.Test.YtcinhjfonmjneaaTree2
set_option linter.unusedVariables false
set_option linter.unusedSimpArgs false
namespace Go.Proofs
open Go.Abs

mutual
/-- What is read as a type has just that type's tree. -/
theorem kParse_tree : ∀ (n : Nd) (d left : Int) (t : Ty) (m : Int), kParse n d left = (some t, m) → tyNd t = n
  | .mk kind nn p s args, d, left, t, m, h => by
    simp only [kParse] at h
    split at h
    · simp at h
    · rename_i hc
      simp only [not_or, ne_eq, Decidable.not_not] at hc
      rcases hk : kParses args (d + 1) (left - 1) with ⟨b, m'⟩
      rw [hk] at h
      cases b with
      | none => simp at h
      | some l =>
        simp at h
        have := kParses_tree args (d + 1) (left - 1) l m' hk
        rw [← h.1]; simp only [tyNd, this]
        rw [hc.2.2.1, hc.2.2.2.1, hc.2.2.2.2.1]
theorem kParses_tree : ∀ (l : List Nd) (d left : Int) (r : List Ty) (m : Int), kParses l d left = (some r, m) → tyNds r = l
  | [], d, left, r, m, h => by simp [kParses] at h; rw [h.1]; rfl
  | x :: l, d, left, r, m, h => by
    simp only [kParses] at h
    rcases hk : kParse x d left with ⟨b, m'⟩
    rw [hk] at h
    cases b with
    | none => simp at h
    | some t =>
      simp only at h
      rcases hk2 : kParses l d m' with ⟨b2, m2⟩
      rw [hk2] at h
      cases b2 with
      | none => simp at h
      | some q =>
        simp at h
        have h1 := kParse_tree x d left t m' hk
        have h2 := kParses_tree l d m' q m2 hk2
        rw [← h.1]; simp only [tyNds, h1, h2]
end
theorem tyNds_length : ∀ l : List Ty, (tyNds l).length = l.length
  | [] => rfl
  | t :: l => by simp [tyNds, tyNds_length l]
mutual
/-- A good type's tree is read as it. -/
theorem kGood_parse : ∀ (t : Ty) (d n : Int) (m : Int), kGood t d n = (true, m) → kParse (tyNd t) d (300 - n) = (some t, 300 - m)
  | .mk T args, d, n, m, h => by
    simp only [kGood] at h
    split at h
    · simp at h
    · rename_i hc
      simp only [tyNd, kParse, tyNds_length]
      rw [if_neg (by simp only [not_or, ne_eq, Decidable.not_not] at hc ⊢; refine ⟨by omega, hc.1, trivial, trivial, trivial, hc.2.2⟩)]
      rcases hk : kGoods args (d + 1) (n + 1) with ⟨b, m'⟩
      rw [hk] at h
      cases b with
      | false => simp at h
      | true =>
        have ih := kGoods_parse args (d + 1) (n + 1) m' hk
        simp only [Prod.mk.injEq] at h
        rw [show 300 - n - 1 = 300 - (n + 1) from by omega, ih, h.2]
theorem kGoods_parse : ∀ (l : List Ty) (d n : Int) (m : Int), kGoods l d n = (true, m) → kParses (tyNds l) d (300 - n) = (some l, 300 - m)
  | [], d, n, m, h => by simp [kGoods] at h; simp [tyNds, kParses, h]
  | t :: l, d, n, m, h => by
    simp only [kGoods] at h
    rcases hk : kGood t d n with ⟨b, m'⟩
    rw [hk] at h
    cases b with
    | false => simp at h
    | true =>
      simp only at h
      have h1 := kGood_parse t d n m' hk
      have h2 := kGoods_parse l d m' m h
      simp only [tyNds, kParses, h1, h2]
end
theorem tGood_parse {t : Ty} (h : tGood t = true) : tParse (tyNd t) = (t, 0) := by
  unfold tGood at h
  rcases hk : kGood t 1 0 with ⟨b, m⟩
  rw [hk] at h
  simp only at h; subst h
  have h1 := kGood_parse t 1 0 m hk
  have h2 : tGood t = true := by unfold tGood; rw [hk]
  simp only [tParse]
  rw [show (300 : Int) - 0 = 300 from rfl] at h1
  rw [h1]
  simp only [h2, if_true]
theorem arity_prim {T : Int} {k : Nat} (h : arity T = k) : primP T = true := by
  have : 1 ≤ T ∧ T ≤ 15 := by
    unfold arity at h
    split at h
    · omega
    · split at h
      · omega
      · split at h <;> omega
  unfold primP; exact decide_eq_true (.inl this)
mutual
theorem kGood_wrong : ∀ (t : Ty) (d n : Int) (m : Int), kGood t d n = (true, m) → wrong (tyNd t) d = 0 ∧ (many (tyNd t) : Int) = m - n
  | .mk T args, d, n, m, h => by
    simp only [kGood] at h
    split at h
    · simp at h
    · rename_i hc
      simp only [not_or, ne_eq, Decidable.not_not] at hc
      rcases hk : kGoods args (d + 1) (n + 1) with ⟨b, m'⟩
      rw [hk] at h
      cases b with
      | false => simp at h
      | true =>
        have ih := kGoods_wrong args (d + 1) (n + 1) m' hk
        simp only [Prod.mk.injEq] at h
        simp only [tyNd, wrong, many]
        rw [if_pos (wrong1_of (by omega) (.inr (.inr (.inl ⟨rfl, arity_prim hc.2.2⟩))) (by simp) (by simp) (by simp) (by simp) (by unfold maxI; omega) (by unfold maxI; omega) (by simp))]
        refine ⟨ih.1, ?_⟩
        have := ih.2
        omega
theorem kGoods_wrong : ∀ (l : List Ty) (d n : Int) (m : Int), kGoods l d n = (true, m) → wrongs (tyNds l) d = 0 ∧ (manys (tyNds l) : Int) = m - n
  | [], d, n, m, h => by simp [kGoods] at h; simp [tyNds, wrongs, manys, h]
  | t :: l, d, n, m, h => by
    simp only [kGoods] at h
    rcases hk : kGood t d n with ⟨b, m'⟩
    rw [hk] at h
    cases b with
    | false => simp at h
    | true =>
      simp only at h
      have h1 := kGood_wrong t d n m' hk
      have h2 := kGoods_wrong l d m' m h
      simp only [tyNds, wrongs, manys, h1.1, if_true]
      refine ⟨h2.1, ?_⟩
      have := h1.2; have := h2.2
      omega
end
theorem tGood_node {t : Ty} (h : tGood t = true) : tGoodN (tyNd t) = 0 := by
  unfold tGood at h
  have hle := kGood_le t 1 0 (by omega)
  rcases hk : kGood t 1 0 with ⟨b, m⟩
  rw [hk] at h hle
  simp only at h; subst h
  have h1 := kGood_wrong t 1 0 m hk
  have := hle.2.2 rfl
  exact tGoodN_zero.2 ⟨h1.1, by have := h1.2; simp only at *; omega⟩
mutual
theorem tyNd_size : ∀ t : Ty, ndSize (tyNd t) = tySize t
  | .mk T args => by simp only [tyNd, ndSize, tySize, tyNds_size args]; simp
theorem tyNds_size : ∀ l : List Ty, ndsSize (tyNds l) = tysSize l
  | [] => rfl
  | t :: l => by simp only [tyNds, ndsSize, tysSize, tyNd_size t, tyNds_size l]
end
theorem tParse_some (n : Nd) : (∃ t, tParse n = (t, 0) ∧ tGood t = true ∧ tyNd t = n ∧ tySize t ≤ ndSize n) ∨ tParse n = (.mk 0 [], 1) := by
  simp only [tParse]
  rcases hk : kParse n 1 300 with ⟨b, m⟩
  cases b with
  | none => right; rfl
  | some t =>
    simp only
    cases hg : tGood t
    · right; rfl
    · left; exact ⟨t, rfl, hg, kParse_tree n 1 300 t m hk, kParse_size n 1 300 t m hk⟩

attribute [local irreducible] AK AOps QCalls ECalls tyNd tyNds tGood headComp tComp tCopy tPack tStore arity tParse tySame ndSame tNode tGoodN

set_option maxHeartbeats 0 in
theorem KindParses_calls (n : Nd) (hw : ndWf n) (hn : ndSize n ≤ 1048577) : QCalls Try.prog Try.X 5 [encNd n] (.bool true) := by
  have h1 := Parse_calls n hn
  have h2 := ParseType_calls n hn
  have hs : tySize (tParse n).1 ≤ 1048577 := by
    rcases tParse_some n with ⟨t, e, _, _, hs⟩ | e
    · rw [e]; exact Nat.le_trans hs hn
    · rw [e]; simp [tySize, tysSize]
  have h3 := SameType_calls (tParse n).1 (tParse n).1 (by omega)
  rw [(tySame_iff _ _).2 rfl] at h3
  have h4 := namesL_calls
  rcases hr : tParse n with ⟨⟨U, us⟩, e⟩
  rw [hr] at h1 h2 h3
  obtain ⟨a1, a2, a3, a4, a5⟩ := n
  have he : (e == e) = true := by simp
  refine QCalls.of Try.func5 rfl (fun args w => Try.call5 args w) (Nat.le_of_ble_eq_true rfl) [(0, .c (encNd (.mk a1 a2 a3 a4 a5)))] rfl fun β hβ => ?_; have hf := Try.func5
  repeat' (first
    | refine AK.runP Try.hX Try.mixed 300 rfl ?_
    | refine AK.condTe rfl (by first | with_reducible assumption | (simp only [cond_true, cond_false, Bool.not_true, Bool.not_false]; with_reducible assumption)) ?_
    | refine AK.condFe rfl (by first | with_reducible assumption | (simp only [cond_true, cond_false, Bool.not_true, Bool.not_false]; with_reducible assumption)) ?_
    | (refine AK.condS rfl (fun h => ?_) (fun h => ?_) <;> first | (cases h; done) | rw [h] | skip)
    | refine AK.retQ Try.hX hf rfl rfl ?_
    | refine AK.retE Try.hX hf rfl rfl rfl rfl ?_ (by with_reducible rfl)
    | refine AK.retE Try.hX hf rfl rfl rfl rfl ?_ ?_
    | refine AK.region Try.mixed rfl ?_
    | refine AOps.done ?_
    | refine AOps.runS Try.hX kn rfl ?_
    | refine AOps.callq kn rfl rfl rfl rfl (h1) ?_
    | refine AOps.callq kn rfl rfl rfl rfl (h2) ?_
    | refine AOps.callq kn rfl rfl rfl rfl (h3) ?_
    | refine AOps.callq kn rfl rfl rfl rfl (h4) ?_
    | refine AOps.box kn rfl rfl rfl rfl rfl rfl ?_
    | refine AOps.alloc Try.hX kn rfl rfl rfl rfl rfl rfl rfl ?_
    | refine AOps.store Try.hX kn rfl rfl rfl rfl rfl rfl rfl rfl rfl rfl rfl ?_
    | refine AOps.buildSlice Try.hX kn rfl rfl rfl rfl rfl rfl rfl rfl rfl rfl rfl rfl ?_
    | refine AOps.append Try.hX kn rfl rfl rfl rfl rfl rfl rfl rfl rfl rfl rfl rfl rfl rfl rfl rfl rfl rfl rfl rfl rfl ?_ ?_
    | refine AOps.toStr Try.hX kn rfl rfl rfl rfl rfl rfl rfl rfl rfl rfl rfl (by first | exact rfl | exact byte1 _) rfl ?_
    | refine AOps.buildArr Try.hX kn rfl rfl rfl rfl rfl rfl rfl rfl ?_
    | refine AOps.indexArr Try.hX kn rfl rfl rfl rfl rfl rfl rfl rfl rfl rfl rfl rfl ?_
    | refine AOps.runP1 Try.hX kn rfl rfl ?_
    | (refine AOps.splitT rfl rfl rfl (by first | with_reducible assumption | (simp only [cond_true, cond_false, Bool.not_true, Bool.not_false]; with_reducible assumption)) (fun h => ?_) <;> (fail_if_success (cases h; done)) <;> rw [h])
    | (refine AOps.splitF rfl rfl rfl (by first | with_reducible assumption | (simp only [cond_true, cond_false, Bool.not_true, Bool.not_false]; with_reducible assumption)) (fun h => ?_) <;> (fail_if_success (cases h; done)) <;> rw [h])
    | (refine AOps.split rfl rfl rfl (fun h => ?_) (fun h => ?_) <;> (fail_if_success (cases h; done)) <;> rw [h])
    | refine AOps.drawn (by kernel_rfl) ?_)
  all_goals rfl

set_option maxHeartbeats 0 in
theorem KindTells_calls (t : Ty) (hw : tyWf t) (ht : tySize t ≤ 1048577) (u : Ty) (hw' : tyWf u) (hu : tySize u ≤ 1048577) : QCalls Try.prog Try.X 11 [encTy t, encTy u] (.bool true) := by
  have h1 := Node_calls t ht
  have h2 := TypeNode_calls t ht
  have hs : ndSize (tNode t).1 ≤ 1048577 := by
    rw [tNode_eq]; split
    · rw [tyNd_size]; exact ht
    · simp [nd0, ndSize, ndsSize]
  have h3 := SameNode_calls (tNode t).1 (tNode t).1 (by omega)
  rw [(ndSame_iff _ _).2 rfl] at h3
  have h4 := Good_calls t ht
  have h5 := GoodType_calls t ht
  have h6 := Same_calls t u (by omega)
  have h7 := SameType_calls t u (by omega)
  have h8 := Comparable_calls t (by omega)
  have h9 := rComparable_calls t (by omega)
  have h10 := Copied_calls t (by omega)
  have h11 := rCopied_calls t (by omega)
  have h12 := Packed_calls t (by omega)
  have h13 := rPacked_calls t (by omega)
  have h14 := Stored_calls t (by omega)
  have h15 := rStored_calls t (by omega)
  have h16 := namesL_calls
  generalize tGood t = g1 at h4 h5
  generalize tySame t u = g2 at h6 h7
  generalize tComp t = g3 at h8 h9
  generalize tCopy t = g4 at h10 h11
  generalize tPack t = g5 at h12 h13
  generalize tStore t = g6 at h14 h15
  rcases hr : tNode t with ⟨⟨b1, b2, b3, b4, b5⟩, e⟩
  rw [hr] at h1 h2 h3
  obtain ⟨T, args⟩ := t
  obtain ⟨U, us⟩ := u
  have he : (e != e) = false := by simp
  have e1 : (!(g1 == g1)) = false := by simp
  have e2 : (!(g2 == g2)) = false := by simp
  have e3 : (g3 == g3) = true := by simp
  have e4 : (g4 == g4) = true := by simp
  have e5 : (g5 == g5) = true := by simp
  have e6 : (g6 == g6) = true := by simp
  refine QCalls.of Try.func11 rfl (fun args w => Try.call11 args w) (Nat.le_of_ble_eq_true rfl) [(0, .c (encTy (.mk T args))), (1, .c (encTy (.mk U us)))] rfl fun β hβ => ?_; have hf := Try.func11
  repeat' (first
    | refine AK.runP Try.hX Try.mixed 300 rfl ?_
    | refine AK.condTe rfl (by first | with_reducible assumption | (simp only [cond_true, cond_false, Bool.not_true, Bool.not_false]; with_reducible assumption)) ?_
    | refine AK.condFe rfl (by first | with_reducible assumption | (simp only [cond_true, cond_false, Bool.not_true, Bool.not_false]; with_reducible assumption)) ?_
    | (refine AK.condS rfl (fun h => ?_) (fun h => ?_) <;> first | (cases h; done) | rw [h] | skip)
    | refine AK.retQ Try.hX hf rfl rfl ?_
    | refine AK.retE Try.hX hf rfl rfl rfl rfl ?_ (by with_reducible rfl)
    | refine AK.retE Try.hX hf rfl rfl rfl rfl ?_ ?_
    | refine AK.region Try.mixed rfl ?_
    | refine AOps.done ?_
    | refine AOps.runS Try.hX kn rfl ?_
    | refine AOps.callq kn rfl rfl rfl rfl (h1) ?_
    | refine AOps.callq kn rfl rfl rfl rfl (h2) ?_
    | refine AOps.callq kn rfl rfl rfl rfl (h3) ?_
    | refine AOps.callq kn rfl rfl rfl rfl (h4) ?_
    | refine AOps.callq kn rfl rfl rfl rfl (h5) ?_
    | refine AOps.callq kn rfl rfl rfl rfl (h6) ?_
    | refine AOps.callq kn rfl rfl rfl rfl (h7) ?_
    | refine AOps.callq kn rfl rfl rfl rfl (h8) ?_
    | refine AOps.callq kn rfl rfl rfl rfl (h9) ?_
    | refine AOps.callq kn rfl rfl rfl rfl (h10) ?_
    | refine AOps.callq kn rfl rfl rfl rfl (h11) ?_
    | refine AOps.callq kn rfl rfl rfl rfl (h12) ?_
    | refine AOps.callq kn rfl rfl rfl rfl (h13) ?_
    | refine AOps.callq kn rfl rfl rfl rfl (h14) ?_
    | refine AOps.callq kn rfl rfl rfl rfl (h15) ?_
    | refine AOps.callq kn rfl rfl rfl rfl (h16) ?_
    | refine AOps.box kn rfl rfl rfl rfl rfl rfl ?_
    | refine AOps.alloc Try.hX kn rfl rfl rfl rfl rfl rfl rfl ?_
    | refine AOps.store Try.hX kn rfl rfl rfl rfl rfl rfl rfl rfl rfl rfl rfl ?_
    | refine AOps.buildSlice Try.hX kn rfl rfl rfl rfl rfl rfl rfl rfl rfl rfl rfl rfl ?_
    | refine AOps.append Try.hX kn rfl rfl rfl rfl rfl rfl rfl rfl rfl rfl rfl rfl rfl rfl rfl rfl rfl rfl rfl rfl rfl ?_ ?_
    | refine AOps.toStr Try.hX kn rfl rfl rfl rfl rfl rfl rfl rfl rfl rfl rfl (by first | exact rfl | exact byte1 _) rfl ?_
    | refine AOps.buildArr Try.hX kn rfl rfl rfl rfl rfl rfl rfl rfl ?_
    | refine AOps.indexArr Try.hX kn rfl rfl rfl rfl rfl rfl rfl rfl rfl rfl rfl rfl ?_
    | refine AOps.runP1 Try.hX kn rfl rfl ?_
    | (refine AOps.splitT rfl rfl rfl (by first | with_reducible assumption | (simp only [cond_true, cond_false, Bool.not_true, Bool.not_false]; with_reducible assumption)) (fun h => ?_) <;> (fail_if_success (cases h; done)) <;> rw [h])
    | (refine AOps.splitF rfl rfl rfl (by first | with_reducible assumption | (simp only [cond_true, cond_false, Bool.not_true, Bool.not_false]; with_reducible assumption)) (fun h => ?_) <;> (fail_if_success (cases h; done)) <;> rw [h])
    | (refine AOps.split rfl rfl rfl (fun h => ?_) (fun h => ?_) <;> (fail_if_success (cases h; done)) <;> rw [h])
    | refine AOps.drawn (by kernel_rfl) ?_)
  all_goals rfl

set_option maxHeartbeats 0 in
theorem KindBack_calls (t : Ty) (hw : tyWf t) (ht : tySize t ≤ 1048577) (n : Nd) (hw' : ndWf n) (hn : ndSize n ≤ 1048577) : QCalls Try.prog Try.X 12 [encTy t, encNd n] (.bool true) := by
  have h1 := Node_calls t ht
  have h2 := namesK_calls
  have h3 := Good_calls t ht
  have k1 := Parse_calls n hn
  have hp := tParse_some n
  rcases hr : tParse n with ⟨⟨U, us⟩, e⟩
  rw [hr] at k1 hp
  have hk : (∃ n', QCalls Try.prog Try.X 53 [encTy (.mk U us)] (.tup [encNd n', .int .i64 0]) ∧ QCalls Try.prog Try.X 62 [encNd n', encNd n] (.bool true) ∧ e = 0) ∨ (e = 1 ∧ U = 0) := by
    rcases hp with ⟨t', q, g1, g2, g3⟩ | q
    · left
      simp at q
      obtain ⟨rfl, rfl⟩ := q
      refine ⟨n, ?_, ?_, rfl⟩
      · have := Node_calls (.mk U us) (by omega)
        rw [tNode_eq, g1, g2] at this; exact this
      · have := sameNodeK_calls n n (by omega)
        rw [(ndSame_iff _ _).2 rfl] at this; exact this
    · right; simp at q; exact ⟨q.2, q.1.1⟩
  rw [tNode_eq] at h1
  cases hg : tGood t with
  | false =>
    rw [hg] at h1 h3
    obtain ⟨T, args⟩ := t
    obtain ⟨a1, a2, a3, a4, a5⟩ := n
    rcases hk with ⟨⟨b1, b2, b3, b4, b5⟩, k2, k3, rfl⟩ | ⟨rfl, rfl⟩
    · refine QCalls.of Try.func12 rfl (fun args w => Try.call12 args w) (Nat.le_of_ble_eq_true rfl) [(0, .c (encTy (.mk T args))), (1, .c (encNd (.mk a1 a2 a3 a4 a5)))] rfl fun β hβ => ?_; have hf := Try.func12
      repeat' (first
        | refine AK.runP Try.hX Try.mixed 300 rfl ?_
        | refine AK.condTe rfl (by first | with_reducible assumption | (simp only [cond_true, cond_false, Bool.not_true, Bool.not_false]; with_reducible assumption)) ?_
        | refine AK.condFe rfl (by first | with_reducible assumption | (simp only [cond_true, cond_false, Bool.not_true, Bool.not_false]; with_reducible assumption)) ?_
        | (refine AK.condS rfl (fun h => ?_) (fun h => ?_) <;> first | (cases h; done) | rw [h] | skip)
        | refine AK.retQ Try.hX hf rfl rfl ?_
        | refine AK.retE Try.hX hf rfl rfl rfl rfl ?_ (by with_reducible rfl)
        | refine AK.retE Try.hX hf rfl rfl rfl rfl ?_ ?_
        | refine AK.region Try.mixed rfl ?_
        | refine AOps.done ?_
        | refine AOps.runS Try.hX kn rfl ?_
        | refine AOps.callq kn rfl rfl rfl rfl (h1) ?_
        | refine AOps.callq kn rfl rfl rfl rfl (h2) ?_
        | refine AOps.callq kn rfl rfl rfl rfl (h3) ?_
        | refine AOps.callq kn rfl rfl rfl rfl (k1) ?_
        | refine AOps.callq kn rfl rfl rfl rfl (k2) ?_
        | refine AOps.callq kn rfl rfl rfl rfl (k3) ?_
        | refine AOps.box kn rfl rfl rfl rfl rfl rfl ?_
        | refine AOps.alloc Try.hX kn rfl rfl rfl rfl rfl rfl rfl ?_
        | refine AOps.store Try.hX kn rfl rfl rfl rfl rfl rfl rfl rfl rfl rfl rfl ?_
        | refine AOps.buildSlice Try.hX kn rfl rfl rfl rfl rfl rfl rfl rfl rfl rfl rfl rfl ?_
        | refine AOps.append Try.hX kn rfl rfl rfl rfl rfl rfl rfl rfl rfl rfl rfl rfl rfl rfl rfl rfl rfl rfl rfl rfl rfl ?_ ?_
        | refine AOps.toStr Try.hX kn rfl rfl rfl rfl rfl rfl rfl rfl rfl rfl rfl (by first | exact rfl | exact byte1 _) rfl ?_
        | refine AOps.buildArr Try.hX kn rfl rfl rfl rfl rfl rfl rfl rfl ?_
        | refine AOps.indexArr Try.hX kn rfl rfl rfl rfl rfl rfl rfl rfl rfl rfl rfl rfl ?_
        | refine AOps.runP1 Try.hX kn rfl rfl ?_
        | (refine AOps.splitT rfl rfl rfl (by first | with_reducible assumption | (simp only [cond_true, cond_false, Bool.not_true, Bool.not_false]; with_reducible assumption)) (fun h => ?_) <;> (fail_if_success (cases h; done)) <;> rw [h])
        | (refine AOps.splitF rfl rfl rfl (by first | with_reducible assumption | (simp only [cond_true, cond_false, Bool.not_true, Bool.not_false]; with_reducible assumption)) (fun h => ?_) <;> (fail_if_success (cases h; done)) <;> rw [h])
        | (refine AOps.split rfl rfl rfl (fun h => ?_) (fun h => ?_) <;> (fail_if_success (cases h; done)) <;> rw [h])
        | refine AOps.drawn (by kernel_rfl) ?_)
      all_goals rfl
    · refine QCalls.of Try.func12 rfl (fun args w => Try.call12 args w) (Nat.le_of_ble_eq_true rfl) [(0, .c (encTy (.mk T args))), (1, .c (encNd (.mk a1 a2 a3 a4 a5)))] rfl fun β hβ => ?_; have hf := Try.func12
      repeat' (first
        | refine AK.runP Try.hX Try.mixed 300 rfl ?_
        | refine AK.condTe rfl (by first | with_reducible assumption | (simp only [cond_true, cond_false, Bool.not_true, Bool.not_false]; with_reducible assumption)) ?_
        | refine AK.condFe rfl (by first | with_reducible assumption | (simp only [cond_true, cond_false, Bool.not_true, Bool.not_false]; with_reducible assumption)) ?_
        | (refine AK.condS rfl (fun h => ?_) (fun h => ?_) <;> first | (cases h; done) | rw [h] | skip)
        | refine AK.retQ Try.hX hf rfl rfl ?_
        | refine AK.retE Try.hX hf rfl rfl rfl rfl ?_ (by with_reducible rfl)
        | refine AK.retE Try.hX hf rfl rfl rfl rfl ?_ ?_
        | refine AK.region Try.mixed rfl ?_
        | refine AOps.done ?_
        | refine AOps.runS Try.hX kn rfl ?_
        | refine AOps.callq kn rfl rfl rfl rfl (h1) ?_
        | refine AOps.callq kn rfl rfl rfl rfl (h2) ?_
        | refine AOps.callq kn rfl rfl rfl rfl (h3) ?_
        | refine AOps.callq kn rfl rfl rfl rfl (k1) ?_
        | refine AOps.box kn rfl rfl rfl rfl rfl rfl ?_
        | refine AOps.alloc Try.hX kn rfl rfl rfl rfl rfl rfl rfl ?_
        | refine AOps.store Try.hX kn rfl rfl rfl rfl rfl rfl rfl rfl rfl rfl rfl ?_
        | refine AOps.buildSlice Try.hX kn rfl rfl rfl rfl rfl rfl rfl rfl rfl rfl rfl rfl ?_
        | refine AOps.append Try.hX kn rfl rfl rfl rfl rfl rfl rfl rfl rfl rfl rfl rfl rfl rfl rfl rfl rfl rfl rfl rfl rfl ?_ ?_
        | refine AOps.toStr Try.hX kn rfl rfl rfl rfl rfl rfl rfl rfl rfl rfl rfl (by first | exact rfl | exact byte1 _) rfl ?_
        | refine AOps.buildArr Try.hX kn rfl rfl rfl rfl rfl rfl rfl rfl ?_
        | refine AOps.indexArr Try.hX kn rfl rfl rfl rfl rfl rfl rfl rfl rfl rfl rfl rfl ?_
        | refine AOps.runP1 Try.hX kn rfl rfl ?_
        | (refine AOps.splitT rfl rfl rfl (by first | with_reducible assumption | (simp only [cond_true, cond_false, Bool.not_true, Bool.not_false]; with_reducible assumption)) (fun h => ?_) <;> (fail_if_success (cases h; done)) <;> rw [h])
        | (refine AOps.splitF rfl rfl rfl (by first | with_reducible assumption | (simp only [cond_true, cond_false, Bool.not_true, Bool.not_false]; with_reducible assumption)) (fun h => ?_) <;> (fail_if_success (cases h; done)) <;> rw [h])
        | (refine AOps.split rfl rfl rfl (fun h => ?_) (fun h => ?_) <;> (fail_if_success (cases h; done)) <;> rw [h])
        | refine AOps.drawn (by kernel_rfl) ?_)
      all_goals rfl
  | true =>
    rw [hg] at h1 h3
    simp only [if_true] at h1
    have h4 := Parse_calls (tyNd t) (by rw [tyNd_size]; exact ht)
    rw [tGood_parse hg] at h4
    have h5 := Same_calls t t (by omega)
    rw [(tySame_iff _ _).2 rfl] at h5
    have h6 := treeGood_calls (tyNd t) (by rw [tyNd_size]; exact ht)
    rw [tGood_node hg] at h6
    generalize tyNd t = m at h1 h4 h6
    obtain ⟨T, args⟩ := t
    obtain ⟨c1, c2, c3, c4, c5⟩ := m
    obtain ⟨a1, a2, a3, a4, a5⟩ := n
    rcases hk with ⟨⟨b1, b2, b3, b4, b5⟩, k2, k3, rfl⟩ | ⟨rfl, rfl⟩
    · refine QCalls.of Try.func12 rfl (fun args w => Try.call12 args w) (Nat.le_of_ble_eq_true rfl) [(0, .c (encTy (.mk T args))), (1, .c (encNd (.mk a1 a2 a3 a4 a5)))] rfl fun β hβ => ?_; have hf := Try.func12
      repeat' (first
        | refine AK.runP Try.hX Try.mixed 300 rfl ?_
        | refine AK.condTe rfl (by first | with_reducible assumption | (simp only [cond_true, cond_false, Bool.not_true, Bool.not_false]; with_reducible assumption)) ?_
        | refine AK.condFe rfl (by first | with_reducible assumption | (simp only [cond_true, cond_false, Bool.not_true, Bool.not_false]; with_reducible assumption)) ?_
        | (refine AK.condS rfl (fun h => ?_) (fun h => ?_) <;> first | (cases h; done) | rw [h] | skip)
        | refine AK.retQ Try.hX hf rfl rfl ?_
        | refine AK.retE Try.hX hf rfl rfl rfl rfl ?_ (by with_reducible rfl)
        | refine AK.retE Try.hX hf rfl rfl rfl rfl ?_ ?_
        | refine AK.region Try.mixed rfl ?_
        | refine AOps.done ?_
        | refine AOps.runS Try.hX kn rfl ?_
        | refine AOps.callq kn rfl rfl rfl rfl (h1) ?_
        | refine AOps.callq kn rfl rfl rfl rfl (h2) ?_
        | refine AOps.callq kn rfl rfl rfl rfl (h3) ?_
        | refine AOps.callq kn rfl rfl rfl rfl (h4) ?_
        | refine AOps.callq kn rfl rfl rfl rfl (h5) ?_
        | refine AOps.callq kn rfl rfl rfl rfl (h6) ?_
        | refine AOps.callq kn rfl rfl rfl rfl (k1) ?_
        | refine AOps.callq kn rfl rfl rfl rfl (k2) ?_
        | refine AOps.callq kn rfl rfl rfl rfl (k3) ?_
        | refine AOps.box kn rfl rfl rfl rfl rfl rfl ?_
        | refine AOps.alloc Try.hX kn rfl rfl rfl rfl rfl rfl rfl ?_
        | refine AOps.store Try.hX kn rfl rfl rfl rfl rfl rfl rfl rfl rfl rfl rfl ?_
        | refine AOps.buildSlice Try.hX kn rfl rfl rfl rfl rfl rfl rfl rfl rfl rfl rfl rfl ?_
        | refine AOps.append Try.hX kn rfl rfl rfl rfl rfl rfl rfl rfl rfl rfl rfl rfl rfl rfl rfl rfl rfl rfl rfl rfl rfl ?_ ?_
        | refine AOps.toStr Try.hX kn rfl rfl rfl rfl rfl rfl rfl rfl rfl rfl rfl (by first | exact rfl | exact byte1 _) rfl ?_
        | refine AOps.buildArr Try.hX kn rfl rfl rfl rfl rfl rfl rfl rfl ?_
        | refine AOps.indexArr Try.hX kn rfl rfl rfl rfl rfl rfl rfl rfl rfl rfl rfl rfl ?_
        | refine AOps.runP1 Try.hX kn rfl rfl ?_
        | (refine AOps.splitT rfl rfl rfl (by first | with_reducible assumption | (simp only [cond_true, cond_false, Bool.not_true, Bool.not_false]; with_reducible assumption)) (fun h => ?_) <;> (fail_if_success (cases h; done)) <;> rw [h])
        | (refine AOps.splitF rfl rfl rfl (by first | with_reducible assumption | (simp only [cond_true, cond_false, Bool.not_true, Bool.not_false]; with_reducible assumption)) (fun h => ?_) <;> (fail_if_success (cases h; done)) <;> rw [h])
        | (refine AOps.split rfl rfl rfl (fun h => ?_) (fun h => ?_) <;> (fail_if_success (cases h; done)) <;> rw [h])
        | refine AOps.drawn (by kernel_rfl) ?_)
      all_goals rfl
    · refine QCalls.of Try.func12 rfl (fun args w => Try.call12 args w) (Nat.le_of_ble_eq_true rfl) [(0, .c (encTy (.mk T args))), (1, .c (encNd (.mk a1 a2 a3 a4 a5)))] rfl fun β hβ => ?_; have hf := Try.func12
      repeat' (first
        | refine AK.runP Try.hX Try.mixed 300 rfl ?_
        | refine AK.condTe rfl (by first | with_reducible assumption | (simp only [cond_true, cond_false, Bool.not_true, Bool.not_false]; with_reducible assumption)) ?_
        | refine AK.condFe rfl (by first | with_reducible assumption | (simp only [cond_true, cond_false, Bool.not_true, Bool.not_false]; with_reducible assumption)) ?_
        | (refine AK.condS rfl (fun h => ?_) (fun h => ?_) <;> first | (cases h; done) | rw [h] | skip)
        | refine AK.retQ Try.hX hf rfl rfl ?_
        | refine AK.retE Try.hX hf rfl rfl rfl rfl ?_ (by with_reducible rfl)
        | refine AK.retE Try.hX hf rfl rfl rfl rfl ?_ ?_
        | refine AK.region Try.mixed rfl ?_
        | refine AOps.done ?_
        | refine AOps.runS Try.hX kn rfl ?_
        | refine AOps.callq kn rfl rfl rfl rfl (h1) ?_
        | refine AOps.callq kn rfl rfl rfl rfl (h2) ?_
        | refine AOps.callq kn rfl rfl rfl rfl (h3) ?_
        | refine AOps.callq kn rfl rfl rfl rfl (h4) ?_
        | refine AOps.callq kn rfl rfl rfl rfl (h5) ?_
        | refine AOps.callq kn rfl rfl rfl rfl (h6) ?_
        | refine AOps.callq kn rfl rfl rfl rfl (k1) ?_
        | refine AOps.box kn rfl rfl rfl rfl rfl rfl ?_
        | refine AOps.alloc Try.hX kn rfl rfl rfl rfl rfl rfl rfl ?_
        | refine AOps.store Try.hX kn rfl rfl rfl rfl rfl rfl rfl rfl rfl rfl rfl ?_
        | refine AOps.buildSlice Try.hX kn rfl rfl rfl rfl rfl rfl rfl rfl rfl rfl rfl rfl ?_
        | refine AOps.append Try.hX kn rfl rfl rfl rfl rfl rfl rfl rfl rfl rfl rfl rfl rfl rfl rfl rfl rfl rfl rfl rfl rfl ?_ ?_
        | refine AOps.toStr Try.hX kn rfl rfl rfl rfl rfl rfl rfl rfl rfl rfl rfl (by first | exact rfl | exact byte1 _) rfl ?_
        | refine AOps.buildArr Try.hX kn rfl rfl rfl rfl rfl rfl rfl rfl ?_
        | refine AOps.indexArr Try.hX kn rfl rfl rfl rfl rfl rfl rfl rfl rfl rfl rfl rfl ?_
        | refine AOps.runP1 Try.hX kn rfl rfl ?_
        | (refine AOps.splitT rfl rfl rfl (by first | with_reducible assumption | (simp only [cond_true, cond_false, Bool.not_true, Bool.not_false]; with_reducible assumption)) (fun h => ?_) <;> (fail_if_success (cases h; done)) <;> rw [h])
        | (refine AOps.splitF rfl rfl rfl (by first | with_reducible assumption | (simp only [cond_true, cond_false, Bool.not_true, Bool.not_false]; with_reducible assumption)) (fun h => ?_) <;> (fail_if_success (cases h; done)) <;> rw [h])
        | (refine AOps.split rfl rfl rfl (fun h => ?_) (fun h => ?_) <;> (fail_if_success (cases h; done)) <;> rw [h])
        | refine AOps.drawn (by kernel_rfl) ?_)
      all_goals rfl
end Go.Proofs
