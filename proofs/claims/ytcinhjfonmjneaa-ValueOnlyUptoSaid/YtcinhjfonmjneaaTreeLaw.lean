/- What TreeBack, TreeOnly and TreeCut of touchstonekeep answer: true, for all arguments. -/
-- WIDE
import Derived.Test.YtcinhjfonmjneaaTree5
import Derived.Test.YtcinhjfonmjneaaTree6
import Derived.Test.YtcinhjfonmjneaaKind9
set_option linter.unusedVariables false
set_option linter.unusedSimpArgs false
namespace Go.Proofs
open Go.Abs

theorem numB_pos (n : Int) : 1 ≤ (numB n).length := by
  have := numB_ne n
  cases h : numB n with
  | nil => exact absurd h this
  | cons a b => simp
mutual
/-- Trees that are read are not larger than their bytes. -/
theorem bytesN_size : ∀ (t : Nd) (d : Int), wrong t d = 0 → ndSize t ≤ (bytesN t).length
  | .mk kind n p s args, d, h => by
    obtain ⟨h1, h2⟩ := wrong_eq h
    obtain ⟨_, hk, _, _, hs, ha, _, _, _⟩ := wrong1_eq h1
    have ih := bytesNs_size args (d + 1) h2
    have h3 := numB_pos (s.length : Int)
    have h4 := numB_pos (args.length : Int)
    simp only [ndSize]
    rcases hk with rfl | rfl | ⟨rfl, hp⟩ | rfl
    · obtain rfl := hs (by omega)
      have := ha (by omega); rw [List.length_eq_zero_iff] at this; subst this
      rw [bytes0]; simp [ndsSize]
    · have := ha (by omega); rw [List.length_eq_zero_iff] at this; subst this
      rw [bytes1]; simp only [ndsSize, List.length_cons, List.length_append]; omega
    · obtain rfl := hs (by omega)
      rw [bytes2]; simp only [List.length_cons, List.length_append, List.length_nil]; omega
    · obtain rfl := hs (by omega)
      rw [bytes3]; simp only [List.length_cons, List.length_append, List.length_nil]; omega
theorem bytesNs_size : ∀ (l : List Nd) (d : Int), wrongs l d = 0 → ndsSize l ≤ (bytesNs l).length
  | [], d, _ => by simp [ndsSize]
  | t :: l, d, h => by
    have h1 := wrongs_at h t (by simp)
    have h2 : wrongs l d = 0 := by simp only [wrongs] at h; rw [if_pos h1] at h; exact h
    have ih1 := bytesN_size t d h1
    have ih2 := bytesNs_size l d h2
    simp only [bytesNs, ndsSize, List.length_append]; omega
end
theorem bytesN_ne {t : Nd} {d : Int} (h : wrong t d = 0) : bytesN t ≠ [] := by
  have h1 := bytesN_size t d h
  have h2 := ndSize_pos t
  intro e; rw [e] at h1; simp at h1; omega
theorem pair_eq {α β : Type} {x : α × β} {a : α} {b : β} (h1 : x.1 = a) (h2 : x.2 = b) : x = (a, b) := by cases x; simp_all
attribute [local irreducible] AK AOps QCalls ECalls tDecode bytesN tGoodN ndSame

set_option maxHeartbeats 0 in
theorem TreeBack_calls (n : Nd) (hw : ndWf n) (hn : ndSize n ≤ 1048577) : QCalls Try.prog Try.X 14 [encNd n] (.bool true) := by
  have h1 := Encode_calls n hn
  have h2 := treeGood_calls n hn
  have h3 := growsK_calls
  rw [tEncode_eq] at h1
  by_cases hg : tGoodN n = 0
  · have hl := bytesN_len n 1 (tGoodN_zero.1 hg).1 hn
    have h4 := Decode_calls (bytesN n)
    have h5 := Decode_calls (bytesN n ++ [120])
    have e5 := tDecode_behind hg 120
    have e6 := tDecode_bad (s := bytesN n ++ [120]) (by rw [e5]; omega)
    rw [tDecode_bytes hg] at h4
    rw [pair_eq e6 e5] at h5
    rw [if_pos hg] at h1
    rw [hg] at h2
    have h6 := sameNodeK_calls n n (by omega)
    rw [(ndSame_iff _ _).2 rfl] at h6
    generalize bytesN n = bx at h1 h4 h5 hl
    obtain ⟨a1, a2, a3, a4, a5⟩ := n
    refine QCalls.of Try.func14 rfl (fun args w => Try.call14 args w) (Nat.le_of_ble_eq_true rfl) [(0, .c (encNd (.mk a1 a2 a3 a4 a5)))] rfl fun β hβ => ?_; have hf := Try.func14
    repeat' (first | refine AK.runP Try.hX Try.mixed 300 rfl ?_ | refine AK.condTe rfl asm ?_ | refine AK.condFe rfl asm ?_ | (refine AK.condS rfl (fun h => ?_) (fun h => ?_) <;> first | (cases h; done) | rw [h] | skip) | refine AK.retQ Try.hX hf rfl rfl ?_ | refine AK.region Try.mixed rfl ?_ | refine AOps.done ?_ | refine AOps.runS Try.hX kn rfl ?_ | refine AOps.callq kn rfl rfl rfl rfl (h1) ?_ | refine AOps.callq kn rfl rfl rfl rfl (h2) ?_ | refine AOps.callq kn rfl rfl rfl rfl (h3) ?_ | refine AOps.callq kn rfl rfl rfl rfl (h4) ?_ | refine AOps.callq kn rfl rfl rfl rfl (h5) ?_ | refine AOps.callq kn rfl rfl rfl rfl (h6) ?_ | refine AOps.concat Try.hX kn rfl rfl rfl rfl rfl (by simp only [List.length_cons, List.length_nil]; omega) ?_ | refine AOps.box kn rfl rfl rfl rfl rfl rfl ?_ | refine AOps.alloc Try.hX kn rfl rfl rfl rfl rfl rfl rfl ?_ | refine AOps.store Try.hX kn rfl rfl rfl rfl rfl rfl rfl rfl rfl rfl rfl ?_ | refine AOps.buildSlice Try.hX kn rfl rfl rfl rfl rfl rfl rfl rfl rfl rfl rfl rfl ?_ | refine AOps.append Try.hX kn rfl rfl rfl rfl rfl rfl rfl rfl rfl rfl rfl rfl rfl rfl rfl rfl rfl rfl rfl rfl rfl ?_ ?_ | refine AOps.toStr Try.hX kn rfl rfl rfl rfl rfl rfl rfl rfl rfl rfl rfl (by first | exact rfl | exact byte1 _) rfl ?_ | refine AOps.buildArr Try.hX kn rfl rfl rfl rfl rfl rfl rfl rfl ?_ | refine AOps.indexArr Try.hX kn rfl rfl rfl rfl rfl rfl rfl rfl rfl rfl rfl rfl ?_ | refine AOps.runP1 Try.hX kn rfl rfl ?_ | (refine AOps.splitT rfl rfl rfl asm (fun h => ?_) <;> (fail_if_success (cases h; done)) <;> rw [h]) | (refine AOps.splitF rfl rfl rfl asm (fun h => ?_) <;> (fail_if_success (cases h; done)) <;> rw [h]) | (refine AOps.split rfl rfl rfl (fun h => ?_) (fun h => ?_) <;> (fail_if_success (cases h; done)) <;> rw [h]) | refine AOps.drawn (by kernel_rfl) ?_)
    all_goals rfl
  · rw [if_neg hg] at h1
    have c1 : (tGoodN n != 0) = true := by simpa using hg
    have c2 : (tGoodN n == tGoodN n) = true := by simp
    generalize tGoodN n = e at h1 h2 c1 c2
    obtain ⟨a1, a2, a3, a4, a5⟩ := n
    refine QCalls.of Try.func14 rfl (fun args w => Try.call14 args w) (Nat.le_of_ble_eq_true rfl) [(0, .c (encNd (.mk a1 a2 a3 a4 a5)))] rfl fun β hβ => ?_; have hf := Try.func14
    repeat' (first | refine AK.runP Try.hX Try.mixed 300 rfl ?_ | refine AK.condTe rfl asm ?_ | refine AK.condFe rfl asm ?_ | (refine AK.condS rfl (fun h => ?_) (fun h => ?_) <;> first | (cases h; done) | rw [h] | skip) | refine AK.retQ Try.hX hf rfl rfl ?_ | refine AK.region Try.mixed rfl ?_ | refine AOps.done ?_ | refine AOps.runS Try.hX kn rfl ?_ | refine AOps.callq kn rfl rfl rfl rfl (h1) ?_ | refine AOps.callq kn rfl rfl rfl rfl (h2) ?_ | refine AOps.callq kn rfl rfl rfl rfl (h3) ?_ | refine AOps.box kn rfl rfl rfl rfl rfl rfl ?_ | refine AOps.alloc Try.hX kn rfl rfl rfl rfl rfl rfl rfl ?_ | refine AOps.store Try.hX kn rfl rfl rfl rfl rfl rfl rfl rfl rfl rfl rfl ?_ | refine AOps.buildSlice Try.hX kn rfl rfl rfl rfl rfl rfl rfl rfl rfl rfl rfl rfl ?_ | refine AOps.append Try.hX kn rfl rfl rfl rfl rfl rfl rfl rfl rfl rfl rfl rfl rfl rfl rfl rfl rfl rfl rfl rfl rfl ?_ ?_ | refine AOps.toStr Try.hX kn rfl rfl rfl rfl rfl rfl rfl rfl rfl rfl rfl (by first | exact rfl | exact byte1 _) rfl ?_ | refine AOps.buildArr Try.hX kn rfl rfl rfl rfl rfl rfl rfl rfl ?_ | refine AOps.indexArr Try.hX kn rfl rfl rfl rfl rfl rfl rfl rfl rfl rfl rfl rfl ?_ | refine AOps.runP1 Try.hX kn rfl rfl ?_ | (refine AOps.splitT rfl rfl rfl asm (fun h => ?_) <;> (fail_if_success (cases h; done)) <;> rw [h]) | (refine AOps.splitF rfl rfl rfl asm (fun h => ?_) <;> (fail_if_success (cases h; done)) <;> rw [h]) | (refine AOps.split rfl rfl rfl (fun h => ?_) (fun h => ?_) <;> (fail_if_success (cases h; done)) <;> rw [h]) | refine AOps.drawn (by kernel_rfl) ?_)
    all_goals first
      | rfl
      | (exfalso; clear hf h1 h2 h3; simp_all; done)

set_option maxHeartbeats 0 in
theorem TreeOnly_calls (s : List UInt8) (hs : s.length ≤ 1048576) : QCalls Try.prog Try.X 15 [.str s] (.bool true) := by
  have h1 := Decode_calls s
  have h3 := growsK_calls
  by_cases he : (tDecode s).2 = 0
  · obtain ⟨hg, hb⟩ := tDecode_only he
    rcases hr : tDecode s with ⟨n, e⟩
    rw [hr] at h1 he hg hb
    simp only at h1 he hg hb
    subst he
    have hsz := bytesN_size n 1 (tGoodN_zero.1 hg).1
    rw [hb] at hsz
    have h4 := Encode_calls n (by omega)
    rw [tEncode_eq, if_pos hg, hb] at h4
    have h5 := treeGood_calls n (by omega)
    rw [hg] at h5
    have c1 : (s == s) = true := by simp
    obtain ⟨a1, a2, a3, a4, a5⟩ := n
    refine QCalls.of Try.func15 rfl (fun args w => Try.call15 args w) (Nat.le_of_ble_eq_true rfl) [(0, .c (.str s))] rfl fun β hβ => ?_; have hf := Try.func15
    repeat' (first | refine AK.runP Try.hX Try.mixed 300 rfl ?_ | refine AK.condTe rfl asm ?_ | refine AK.condFe rfl asm ?_ | (refine AK.condS rfl (fun h => ?_) (fun h => ?_) <;> first | (cases h; done) | rw [h] | skip) | refine AK.retQ Try.hX hf rfl rfl ?_ | refine AK.region Try.mixed rfl ?_ | refine AOps.done ?_ | refine AOps.runS Try.hX kn rfl ?_ | refine AOps.callq kn rfl rfl rfl rfl (h1) ?_ | refine AOps.callq kn rfl rfl rfl rfl (h3) ?_ | refine AOps.callq kn rfl rfl rfl rfl (h4) ?_ | refine AOps.callq kn rfl rfl rfl rfl (h5) ?_ | refine AOps.box kn rfl rfl rfl rfl rfl rfl ?_ | refine AOps.alloc Try.hX kn rfl rfl rfl rfl rfl rfl rfl ?_ | refine AOps.store Try.hX kn rfl rfl rfl rfl rfl rfl rfl rfl rfl rfl rfl ?_ | refine AOps.buildSlice Try.hX kn rfl rfl rfl rfl rfl rfl rfl rfl rfl rfl rfl rfl ?_ | refine AOps.append Try.hX kn rfl rfl rfl rfl rfl rfl rfl rfl rfl rfl rfl rfl rfl rfl rfl rfl rfl rfl rfl rfl rfl ?_ ?_ | refine AOps.toStr Try.hX kn rfl rfl rfl rfl rfl rfl rfl rfl rfl rfl rfl (by first | exact rfl | exact byte1 _) rfl ?_ | refine AOps.buildArr Try.hX kn rfl rfl rfl rfl rfl rfl rfl rfl ?_ | refine AOps.indexArr Try.hX kn rfl rfl rfl rfl rfl rfl rfl rfl rfl rfl rfl rfl ?_ | refine AOps.runP1 Try.hX kn rfl rfl ?_ | (refine AOps.splitT rfl rfl rfl asm (fun h => ?_) <;> (fail_if_success (cases h; done)) <;> rw [h]) | (refine AOps.splitF rfl rfl rfl asm (fun h => ?_) <;> (fail_if_success (cases h; done)) <;> rw [h]) | (refine AOps.split rfl rfl rfl (fun h => ?_) (fun h => ?_) <;> (fail_if_success (cases h; done)) <;> rw [h]) | refine AOps.drawn (by kernel_rfl) ?_)
    all_goals rfl
  · have hb := tDecode_bad he
    rcases hr : tDecode s with ⟨n, e⟩
    rw [hr] at h1 he hb
    simp only at h1 he hb
    subst hb
    have c1 : (e != 0) = true := by simpa using he
    have h4 := sameNodeK_calls nd0 nd0 (by simp [nd0, ndSize, ndsSize])
    rw [(ndSame_iff _ _).2 rfl] at h4
    refine QCalls.of Try.func15 rfl (fun args w => Try.call15 args w) (Nat.le_of_ble_eq_true rfl) [(0, .c (.str s))] rfl fun β hβ => ?_; have hf := Try.func15
    repeat' (first | refine AK.runP Try.hX Try.mixed 300 rfl ?_ | refine AK.condTe rfl asm ?_ | refine AK.condFe rfl asm ?_ | (refine AK.condS rfl (fun h => ?_) (fun h => ?_) <;> first | (cases h; done) | rw [h] | skip) | refine AK.retQ Try.hX hf rfl rfl ?_ | refine AK.region Try.mixed rfl ?_ | refine AOps.done ?_ | refine AOps.runS Try.hX kn rfl ?_ | refine AOps.callq kn rfl rfl rfl rfl (h1) ?_ | refine AOps.callq kn rfl rfl rfl rfl (h3) ?_ | refine AOps.callq kn rfl rfl rfl rfl (h4) ?_ | refine AOps.box kn rfl rfl rfl rfl rfl rfl ?_ | refine AOps.alloc Try.hX kn rfl rfl rfl rfl rfl rfl rfl ?_ | refine AOps.store Try.hX kn rfl rfl rfl rfl rfl rfl rfl rfl rfl rfl rfl ?_ | refine AOps.buildSlice Try.hX kn rfl rfl rfl rfl rfl rfl rfl rfl rfl rfl rfl rfl ?_ | refine AOps.append Try.hX kn rfl rfl rfl rfl rfl rfl rfl rfl rfl rfl rfl rfl rfl rfl rfl rfl rfl rfl rfl rfl rfl ?_ ?_ | refine AOps.toStr Try.hX kn rfl rfl rfl rfl rfl rfl rfl rfl rfl rfl rfl (by first | exact rfl | exact byte1 _) rfl ?_ | refine AOps.buildArr Try.hX kn rfl rfl rfl rfl rfl rfl rfl rfl ?_ | refine AOps.indexArr Try.hX kn rfl rfl rfl rfl rfl rfl rfl rfl rfl rfl rfl rfl ?_ | refine AOps.runP1 Try.hX kn rfl rfl ?_ | (refine AOps.splitT rfl rfl rfl asm (fun h => ?_) <;> (fail_if_success (cases h; done)) <;> rw [h]) | (refine AOps.splitF rfl rfl rfl asm (fun h => ?_) <;> (fail_if_success (cases h; done)) <;> rw [h]) | (refine AOps.split rfl rfl rfl (fun h => ?_) (fun h => ?_) <;> (fail_if_success (cases h; done)) <;> rw [h]) | refine AOps.drawn (by kernel_rfl) ?_)
    all_goals rfl

set_option maxHeartbeats 0 in
theorem TreeCut_calls (n : Nd) (hw : ndWf n) (hn : ndSize n ≤ 1048577) (k : Int) (hk1 : -9223372036854775808 ≤ k ∧ k ≤ 9223372036854775807) : QCalls Try.prog Try.X 16 [encNd n, .int .i64 k] (.bool true) := by
  have h1 := Encode_calls n hn
  have h3 := growsK_calls
  rw [tEncode_eq] at h1
  by_cases hg : tGoodN n = 0
  · have hl := bytesN_len n 1 (tGoodN_zero.1 hg).1 hn
    have hne := bytesN_ne (tGoodN_zero.1 hg).1
    have hpos : 0 < (bytesN n).length := by
      cases hh : bytesN n with
      | nil => exact absurd hh hne
      | cons a b => simp
    obtain ⟨r, hr, h2⟩ := pick_calls k (bytesN n).length hk1.1 hk1.2 hpos (by omega)
    have h4 := Decode_calls ((bytesN n).take r)
    have e5 := tDecode_cut hg r hr
    have e6 := tDecode_bad (s := (bytesN n).take r) (by rw [e5]; omega)
    rw [pair_eq e6 e5] at h4
    rw [if_pos hg] at h1
    have c1 : (bytesN n == []) = false := by simpa using hne
    generalize bytesN n = bx at h1 h2 h4 hl c1 hr
    obtain ⟨a1, a2, a3, a4, a5⟩ := n
    refine QCalls.of Try.func16 rfl (fun args w => Try.call16 args w) (Nat.le_of_ble_eq_true rfl) [(0, .c (encNd (.mk a1 a2 a3 a4 a5))), (1, .c (.int .i64 k))] rfl fun β hβ => ?_; have hf := Try.func16
    repeat' (first | refine AK.runP Try.hX Try.mixed 300 rfl ?_ | refine AK.condTe rfl asm ?_ | refine AK.condFe rfl asm ?_ | (refine AK.condS rfl (fun h => ?_) (fun h => ?_) <;> first | (cases h; done) | rw [h] | skip) | refine AK.retQ Try.hX hf rfl rfl ?_ | refine AK.region Try.mixed rfl ?_ | refine AOps.done ?_ | refine AOps.runS Try.hX kn rfl ?_ | refine AOps.callq kn rfl rfl rfl rfl (h1) ?_ | refine AOps.callq kn rfl rfl rfl rfl (h2) ?_ | refine AOps.callq kn rfl rfl rfl rfl (h3) ?_ | refine AOps.callq kn rfl rfl rfl rfl (h4) ?_ | refine AOps.sliceStr Try.hX kn rfl rfl rfl rfl rfl rfl (l := none) (h := some r) rfl rfl (Nat.le_of_lt hr) (Nat.zero_le _) ?_ | refine AOps.box kn rfl rfl rfl rfl rfl rfl ?_ | refine AOps.alloc Try.hX kn rfl rfl rfl rfl rfl rfl rfl ?_ | refine AOps.store Try.hX kn rfl rfl rfl rfl rfl rfl rfl rfl rfl rfl rfl ?_ | refine AOps.buildSlice Try.hX kn rfl rfl rfl rfl rfl rfl rfl rfl rfl rfl rfl rfl ?_ | refine AOps.append Try.hX kn rfl rfl rfl rfl rfl rfl rfl rfl rfl rfl rfl rfl rfl rfl rfl rfl rfl rfl rfl rfl rfl ?_ ?_ | refine AOps.toStr Try.hX kn rfl rfl rfl rfl rfl rfl rfl rfl rfl rfl rfl (by first | exact rfl | exact byte1 _) rfl ?_ | refine AOps.buildArr Try.hX kn rfl rfl rfl rfl rfl rfl rfl rfl ?_ | refine AOps.indexArr Try.hX kn rfl rfl rfl rfl rfl rfl rfl rfl rfl rfl rfl rfl ?_ | refine AOps.runP1 Try.hX kn rfl rfl ?_ | (refine AOps.splitT rfl rfl rfl asm (fun h => ?_) <;> (fail_if_success (cases h; done)) <;> rw [h]) | (refine AOps.splitF rfl rfl rfl asm (fun h => ?_) <;> (fail_if_success (cases h; done)) <;> rw [h]) | (refine AOps.split rfl rfl rfl (fun h => ?_) (fun h => ?_) <;> (fail_if_success (cases h; done)) <;> rw [h]) | refine AOps.drawn (by kernel_rfl) ?_)
    all_goals rfl
  · rw [if_neg hg] at h1
    have c1 : (tGoodN n != 0) = true := by simpa using hg
    generalize tGoodN n = e at h1 c1
    obtain ⟨a1, a2, a3, a4, a5⟩ := n
    refine QCalls.of Try.func16 rfl (fun args w => Try.call16 args w) (Nat.le_of_ble_eq_true rfl) [(0, .c (encNd (.mk a1 a2 a3 a4 a5))), (1, .c (.int .i64 k))] rfl fun β hβ => ?_; have hf := Try.func16
    repeat' (first | refine AK.runP Try.hX Try.mixed 300 rfl ?_ | refine AK.condTe rfl asm ?_ | refine AK.condFe rfl asm ?_ | (refine AK.condS rfl (fun h => ?_) (fun h => ?_) <;> first | (cases h; done) | rw [h] | skip) | refine AK.retQ Try.hX hf rfl rfl ?_ | refine AK.region Try.mixed rfl ?_ | refine AOps.done ?_ | refine AOps.runS Try.hX kn rfl ?_ | refine AOps.callq kn rfl rfl rfl rfl (h1) ?_ | refine AOps.callq kn rfl rfl rfl rfl (h3) ?_ | refine AOps.box kn rfl rfl rfl rfl rfl rfl ?_ | refine AOps.alloc Try.hX kn rfl rfl rfl rfl rfl rfl rfl ?_ | refine AOps.store Try.hX kn rfl rfl rfl rfl rfl rfl rfl rfl rfl rfl rfl ?_ | refine AOps.buildSlice Try.hX kn rfl rfl rfl rfl rfl rfl rfl rfl rfl rfl rfl rfl ?_ | refine AOps.append Try.hX kn rfl rfl rfl rfl rfl rfl rfl rfl rfl rfl rfl rfl rfl rfl rfl rfl rfl rfl rfl rfl rfl ?_ ?_ | refine AOps.toStr Try.hX kn rfl rfl rfl rfl rfl rfl rfl rfl rfl rfl rfl (by first | exact rfl | exact byte1 _) rfl ?_ | refine AOps.buildArr Try.hX kn rfl rfl rfl rfl rfl rfl rfl rfl ?_ | refine AOps.indexArr Try.hX kn rfl rfl rfl rfl rfl rfl rfl rfl rfl rfl rfl rfl ?_ | refine AOps.runP1 Try.hX kn rfl rfl ?_ | (refine AOps.splitT rfl rfl rfl asm (fun h => ?_) <;> (fail_if_success (cases h; done)) <;> rw [h]) | (refine AOps.splitF rfl rfl rfl asm (fun h => ?_) <;> (fail_if_success (cases h; done)) <;> rw [h]) | (refine AOps.split rfl rfl rfl (fun h => ?_) (fun h => ?_) <;> (fail_if_success (cases h; done)) <;> rw [h]) | refine AOps.drawn (by kernel_rfl) ?_)
    all_goals rfl
end Go.Proofs
