/- What GoodNode of touchstoneref answers. -/
-- WIDE
import Derived.Test.YtcinhjfonmjneaaDeep
import Derived.Test.YtcinhjfonmjneaaTree2
import Derived.Test.YtcinhjfonmjneaaNumOf
set_option linter.unusedVariables false
set_option linter.unusedSimpArgs false
namespace Go.Proofs
open Go.Abs
theorem deeps_snoc (l : List (Nd × Int)) (x : Nd × Int) : encDeeps l ++ [encDeep x] = encDeeps (l ++ [x]) := by rw [deeps_append]; rfl
theorem okAL_rows (us : List Nat) : ∀ (l : List CV), okAL us (rowCells l) = true := by
  intro l
  unfold rowCells
  generalize flatC l = m
  induction m with
  | nil => rfl
  | cons a m ih => simp only [List.map_cons, okAL, okA]; exact ih
theorem okAL_append (us : List Nat) : ∀ (a b : List AV), okAL us a = true → okAL us b = true → okAL us (a ++ b) = true
  | [], b, _, h => h
  | x :: a, b, h, h' => by
    simp only [List.cons_append, okAL] at h ⊢
    split at h
    · exact okAL_append us a b h h'
    · exact absurd h (by decide)
theorem okAL_rows2 (us : List Nat) (a b : List CV) : okAL us (rowCells a ++ rowCells b) = true := okAL_append us _ _ (okAL_rows us a) (okAL_rows us b)
theorem okB_cons {us : List Nat} {k : Nat} {a : List AV} {l : List (Nat × List AV)} (h1 : mem k us = true) (h2 : okAL us a = true) (h3 : okB us l = true) : okB us ((k, a) :: l) = true := by
  simp only [okB, h1, h2]; exact h3
theorem convL_of {ρ : Ren} {ts : List (Nat × Nat)} {a b : List CV} (h : rowCells a = rowCells b) : ConvL ρ ts (rowCells b) (rowCells a) := by rw [h]; exact convL_c ρ ts _
theorem convL_nil {ρ : Ren} {ts : List (Nat × Nat)} (a : List CV) : ConvL ρ ts (rowCells a ++ []) (rowCells a) := by rw [List.append_nil]; exact convL_c ρ ts _
theorem bls_at {l r : List (Nd × Int)} {x : Nd × Int} : (l ++ x :: r)[l.length]? = some x := by simp
attribute [local irreducible] AK AOps QCalls ECalls wrong wrongs wl cnt tGoodN nIn primP encDeeps many manys

set_option maxHeartbeats 0 in
theorem GoodNode_calls (n : Nd) (hw : ndWf n) (hn : ndSize n ≤ 1048577) : QCalls Try.prog Try.X 45 [encNd n] (.int .i64 (tGoodN n)) := by
  have hmn := many_size n
  have hW0 : wrong n 1 = wl [(n, 1)] := by unfold wl; unfold wl; split <;> simp_all
  have hC0 : many n = cnt [(n, 1)] := by unfold cnt; unfold cnt; rfl
  have hspec : tGoodN n = if wrong n 1 = 0 then (if 300 < many n then 4 else 0) else wrong n 1 := tGoodN_eq n
  obtain ⟨n1, n2, n3, n4, n5⟩ := n
  have e0 : rowCells [CV.agg [.int .i64 n1, .int .i64 n2, .int .i64 n3, .str n4, .sl 5 (encNds n5), .int .i64 1]] = rowCells (encDeeps ([] ++ [(Nd.mk n1 n2 n3 n4 n5, 1)])) := by unfold encDeeps; rfl
  refine QCalls.of Try.func45 rfl (fun args w => Try.call45 args w) (Nat.le_of_ble_eq_true rfl) [(0, .c (encNd (.mk n1 n2 n3 n4 n5)))] rfl fun β hβ => ?_; have hf := Try.func45
  repeat' (first | refine AK.runP Try.hX Try.mixed 300 rfl ?_ | refine AK.condTe rfl asm ?_ | refine AK.condFe rfl asm ?_ | (refine AK.condS rfl (fun h => ?_) (fun h => ?_) <;> first | (cases h; done) | rw [h] | skip) | refine AK.retQ Try.hX hf rfl rfl ?_ | refine AK.region Try.mixed rfl ?_ | refine AOps.done ?_ | refine AOps.runS Try.hX kn rfl ?_ | refine AOps.buildSliceB Try.hX kn rfl rfl rfl rfl rfl rfl rfl rfl rfl rfl rfl rfl rfl rfl ?_ | refine AOps.box kn rfl rfl rfl rfl rfl rfl ?_ | refine AOps.alloc Try.hX kn rfl rfl rfl rfl rfl rfl rfl ?_ | refine AOps.store Try.hX kn rfl rfl rfl rfl rfl rfl rfl rfl rfl rfl rfl ?_ | refine AOps.buildSlice Try.hX kn rfl rfl rfl rfl rfl rfl rfl rfl rfl rfl rfl rfl ?_ | refine AOps.append Try.hX kn rfl rfl rfl rfl rfl rfl rfl rfl rfl rfl rfl rfl rfl rfl rfl rfl rfl rfl rfl rfl rfl ?_ ?_ | refine AOps.toStr Try.hX kn rfl rfl rfl rfl rfl rfl rfl rfl rfl rfl rfl (by first | exact rfl | exact byte1 _) rfl ?_ | refine AOps.buildArr Try.hX kn rfl rfl rfl rfl rfl rfl rfl rfl ?_ | refine AOps.indexArr Try.hX kn rfl rfl rfl rfl rfl rfl rfl rfl rfl rfl rfl rfl ?_ | refine AOps.runP1 Try.hX kn rfl rfl ?_ | (refine AOps.splitT rfl rfl rfl asm (fun h => ?_) <;> (fail_if_success (cases h; done)) <;> rw [h]) | (refine AOps.splitF rfl rfl rfl asm (fun h => ?_) <;> (fail_if_success (cases h; done)) <;> rw [h]) | (refine AOps.split rfl rfl rfl (fun h => ?_) (fun h => ?_) <;> (fail_if_success (cases h; done)) <;> rw [h]) | refine AOps.drawn (by kernel_rfl) ?_)
  refine AK.ren [(3000, 11)] [] (env' := [(4, .c (.int .i64 (0 : Nat))), (3, .bsl 3000 0 6 1)])
    (bs' := [(3000, rowCells (encDeeps ([] ++ [(Nd.mk n1 n2 n3 n4 n5, 1)])))]) (ts' := []) (us' := [3000])
    ⟨⟨_, rfl, .inl rfl⟩, ⟨_, rfl, ⟨_, rfl, rfl⟩⟩, trivial⟩ ⟨⟨_, _, rfl, rfl, convL_of e0⟩, trivial⟩ rfl ?_
  refine AK.loopE (α := List (Nd × Int) × List (Nd × Int)) (fun z => wrong (.mk n1 n2 n3 n4 n5) 1 = wl z.2 ∧ many (.mk n1 n2 n3 n4 n5) = z.1.length + cnt z.2 ∧ (∀ x ∈ z.2, ndWf x.1 ∧ ndSize x.1 ≤ 1048577 ∧ 1 ≤ x.2 ∧ x.2 ≤ 25)) (fun z => cnt z.2)
    (fun z => [(4, .c (.int .i64 (z.1.length : Nat))), (3, .bsl 3000 0 6 (z.1 ++ z.2).length)]) (fun z => [(3000, rowCells (encDeeps (z.1 ++ z.2)))]) (fun _ => []) [3000] ([], [(Nd.mk n1 n2 n3 n4 n5, 1)])
    ⟨hW0, by rw [hC0]; simp, by intro x hx; simp at hx; subst hx; exact ⟨hw, hn, by show (1 : Int) ≤ 1; omega, by show (1 : Int) ≤ 25; omega⟩⟩ ⟨.inl rfl, .inl rfl, trivial⟩ ⟨rfl, trivial⟩ trivial rfl (okB_cons rfl (okAL_rows _ _) rfl) rfl ?_
  rintro ⟨done, todo⟩ ⟨hW, hC, hall⟩ ih
  simp only at hW hC hall
  have hcl := cnt_len todo
  cases todo with
  | nil =>
    have hc : decide (((done.length : Nat) : Int) < (((done ++ []).length : Nat) : Int)) = false := decide_eq_false (by simp)
    have h0 : wrong (.mk n1 n2 n3 n4 n5) 1 = 0 := by rw [hW]; unfold wl; rfl
    have h1 : many (.mk n1 n2 n3 n4 n5) = (done ++ []).length := by rw [hC]; unfold cnt; simp
    rw [hspec, if_pos h0, h1]
    clear ih
    by_cases h3 : 300 < (done ++ []).length
    · have e3 : decide ((((done ++ []).length : Nat) : Int) > 300) = true := decide_eq_true (by omega)
      rw [if_pos h3]
      repeat' (first | refine AK.runP Try.hX Try.mixed 300 rfl ?_ | refine AK.condTe rfl asm ?_ | refine AK.condFe rfl asm ?_ | (refine AK.condS rfl (fun h => ?_) (fun h => ?_) <;> first | (cases h; done) | rw [h] | skip) | refine AK.retQ Try.hX hf rfl rfl ?_ | refine AK.region Try.mixed rfl ?_ | refine AOps.done ?_ | refine AOps.runS Try.hX kn rfl ?_ | refine AOps.box kn rfl rfl rfl rfl rfl rfl ?_ | refine AOps.alloc Try.hX kn rfl rfl rfl rfl rfl rfl rfl ?_ | refine AOps.store Try.hX kn rfl rfl rfl rfl rfl rfl rfl rfl rfl rfl rfl ?_ | refine AOps.buildSlice Try.hX kn rfl rfl rfl rfl rfl rfl rfl rfl rfl rfl rfl rfl ?_ | refine AOps.append Try.hX kn rfl rfl rfl rfl rfl rfl rfl rfl rfl rfl rfl rfl rfl rfl rfl rfl rfl rfl rfl rfl rfl ?_ ?_ | refine AOps.toStr Try.hX kn rfl rfl rfl rfl rfl rfl rfl rfl rfl rfl rfl (by first | exact rfl | exact byte1 _) rfl ?_ | refine AOps.buildArr Try.hX kn rfl rfl rfl rfl rfl rfl rfl rfl ?_ | refine AOps.indexArr Try.hX kn rfl rfl rfl rfl rfl rfl rfl rfl rfl rfl rfl rfl ?_ | refine AOps.runP1 Try.hX kn rfl rfl ?_ | (refine AOps.splitT rfl rfl rfl asm (fun h => ?_) <;> (fail_if_success (cases h; done)) <;> rw [h]) | (refine AOps.splitF rfl rfl rfl asm (fun h => ?_) <;> (fail_if_success (cases h; done)) <;> rw [h]) | (refine AOps.split rfl rfl rfl (fun h => ?_) (fun h => ?_) <;> (fail_if_success (cases h; done)) <;> rw [h]) | refine AOps.drawn (by kernel_rfl) ?_)
      all_goals rfl
    · have e3 : decide ((((done ++ []).length : Nat) : Int) > 300) = false := decide_eq_false (by omega)
      rw [if_neg h3]
      repeat' (first | refine AK.runP Try.hX Try.mixed 300 rfl ?_ | refine AK.condTe rfl asm ?_ | refine AK.condFe rfl asm ?_ | (refine AK.condS rfl (fun h => ?_) (fun h => ?_) <;> first | (cases h; done) | rw [h] | skip) | refine AK.retQ Try.hX hf rfl rfl ?_ | refine AK.region Try.mixed rfl ?_ | refine AOps.done ?_ | refine AOps.runS Try.hX kn rfl ?_ | refine AOps.box kn rfl rfl rfl rfl rfl rfl ?_ | refine AOps.alloc Try.hX kn rfl rfl rfl rfl rfl rfl rfl ?_ | refine AOps.store Try.hX kn rfl rfl rfl rfl rfl rfl rfl rfl rfl rfl rfl ?_ | refine AOps.buildSlice Try.hX kn rfl rfl rfl rfl rfl rfl rfl rfl rfl rfl rfl rfl ?_ | refine AOps.append Try.hX kn rfl rfl rfl rfl rfl rfl rfl rfl rfl rfl rfl rfl rfl rfl rfl rfl rfl rfl rfl rfl rfl ?_ ?_ | refine AOps.toStr Try.hX kn rfl rfl rfl rfl rfl rfl rfl rfl rfl rfl rfl (by first | exact rfl | exact byte1 _) rfl ?_ | refine AOps.buildArr Try.hX kn rfl rfl rfl rfl rfl rfl rfl rfl ?_ | refine AOps.indexArr Try.hX kn rfl rfl rfl rfl rfl rfl rfl rfl rfl rfl rfl rfl ?_ | refine AOps.runP1 Try.hX kn rfl rfl ?_ | (refine AOps.splitT rfl rfl rfl asm (fun h => ?_) <;> (fail_if_success (cases h; done)) <;> rw [h]) | (refine AOps.splitF rfl rfl rfl asm (fun h => ?_) <;> (fail_if_success (cases h; done)) <;> rw [h]) | (refine AOps.split rfl rfl rfl (fun h => ?_) (fun h => ?_) <;> (fail_if_success (cases h; done)) <;> rw [h]) | refine AOps.drawn (by kernel_rfl) ?_)
      all_goals rfl
  | cons x todo =>
  obtain ⟨⟨kind, nn, p, s, args⟩, d⟩ := x
  obtain ⟨hxw, hxs, hd1, hd2⟩ := hall _ (List.mem_cons_self ..)
  simp only at hxw hxs hd1 hd2
  simp only [ndWf] at hxw
  simp only [ndSize] at hxs
  have hal := ndsSize_len args
  have hll : (done ++ (Nd.mk kind nn p s args, d) :: todo).length = done.length + 1 + todo.length := by simp; omega
  have hbig : done.length + 1 + todo.length ≤ 1048577 := by
    have := hcl; simp only [List.length_cons] at this; omega
  have hc : decide (((done.length : Nat) : Int) < (((done ++ (Nd.mk kind nn p s args, d) :: todo).length : Nat) : Int)) = true := decide_eq_true (by rw [hll]; omega)
  have hlt : done.length < (done ++ (Nd.mk kind nn p s args, d) :: todo).length := by rw [hll]; omega
  have hat := deeps_at (bls_at (l := done) (r := todo) (x := (Nd.mk kind nn p s args, d)))
  have hIn := rIn_calls nn hxw.2.1
  have hbad : ∀ e, e ≠ 0 → wrong1 kind nn p s args.length d = e → tGoodN (.mk n1 n2 n3 n4 n5) = e := by
    intro e he h1
    have h2 := wl_bad (r := todo) h1 he
    rw [hspec, hW, h2, if_neg he]
  by_cases c1 : d > 24
  · have e1 : decide (d > 24) = true := decide_eq_true c1
    rw [hbad 4 (by omega) (by simp only [wrong1, if_pos c1])]
    clear ih
    repeat' (first | refine AK.runP Try.hX Try.mixed 300 rfl ?_ | refine AK.condTe rfl asm ?_ | refine AK.condFe rfl asm ?_ | (refine AK.condS rfl (fun h => ?_) (fun h => ?_) <;> first | (cases h; done) | rw [h] | skip) | refine AK.retQ Try.hX hf rfl rfl ?_ | refine AK.region Try.mixed rfl ?_ | refine AOps.done ?_ | refine AOps.runS Try.hX kn rfl ?_ | refine AOps.indexB Try.hX kn rfl rfl rfl rfl rfl rfl rfl rfl rfl done.length rfl hlt ?_ | refine AOps.loadB Try.hX kn rfl rfl rfl rfl rfl rfl hat rfl ?_ | refine AOps.box kn rfl rfl rfl rfl rfl rfl ?_ | refine AOps.alloc Try.hX kn rfl rfl rfl rfl rfl rfl rfl ?_ | refine AOps.store Try.hX kn rfl rfl rfl rfl rfl rfl rfl rfl rfl rfl rfl ?_ | refine AOps.buildSlice Try.hX kn rfl rfl rfl rfl rfl rfl rfl rfl rfl rfl rfl rfl ?_ | refine AOps.append Try.hX kn rfl rfl rfl rfl rfl rfl rfl rfl rfl rfl rfl rfl rfl rfl rfl rfl rfl rfl rfl rfl rfl ?_ ?_ | refine AOps.toStr Try.hX kn rfl rfl rfl rfl rfl rfl rfl rfl rfl rfl rfl (by first | exact rfl | exact byte1 _) rfl ?_ | refine AOps.buildArr Try.hX kn rfl rfl rfl rfl rfl rfl rfl rfl ?_ | refine AOps.indexArr Try.hX kn rfl rfl rfl rfl rfl rfl rfl rfl rfl rfl rfl rfl ?_ | refine AOps.runP1 Try.hX kn rfl rfl ?_ | (refine AOps.splitT rfl rfl rfl asm (fun h => ?_) <;> (fail_if_success (cases h; done)) <;> rw [h]) | (refine AOps.splitF rfl rfl rfl asm (fun h => ?_) <;> (fail_if_success (cases h; done)) <;> rw [h]) | (refine AOps.split rfl rfl rfl (fun h => ?_) (fun h => ?_) <;> (fail_if_success (cases h; done)) <;> rw [h]) | refine AOps.drawn (by kernel_rfl) ?_)
    all_goals rfl
  have e1 : decide (d > 24) = false := decide_eq_false c1
  by_cases c2 : kind < 0
  · have e2 : (bif decide (kind < 0) then true else decide (kind > 3)) = true := by rw [decide_eq_true c2]; rfl
    have e3 : decide (kind < 0) = true := decide_eq_true c2
    rw [hbad 3 (by omega) (by simp only [wrong1, if_neg c1, c2, true_or, if_true])]
    clear ih
    repeat' (first | refine AK.runP Try.hX Try.mixed 300 rfl ?_ | refine AK.condTe rfl asm ?_ | refine AK.condFe rfl asm ?_ | (refine AK.condS rfl (fun h => ?_) (fun h => ?_) <;> first | (cases h; done) | rw [h] | skip) | refine AK.retQ Try.hX hf rfl rfl ?_ | refine AK.region Try.mixed rfl ?_ | refine AOps.done ?_ | refine AOps.runS Try.hX kn rfl ?_ | refine AOps.indexB Try.hX kn rfl rfl rfl rfl rfl rfl rfl rfl rfl done.length rfl hlt ?_ | refine AOps.loadB Try.hX kn rfl rfl rfl rfl rfl rfl hat rfl ?_ | refine AOps.callq kn rfl rfl rfl rfl (isPrim_calls p) ?_ | refine AOps.box kn rfl rfl rfl rfl rfl rfl ?_ | refine AOps.alloc Try.hX kn rfl rfl rfl rfl rfl rfl rfl ?_ | refine AOps.store Try.hX kn rfl rfl rfl rfl rfl rfl rfl rfl rfl rfl rfl ?_ | refine AOps.buildSlice Try.hX kn rfl rfl rfl rfl rfl rfl rfl rfl rfl rfl rfl rfl ?_ | refine AOps.append Try.hX kn rfl rfl rfl rfl rfl rfl rfl rfl rfl rfl rfl rfl rfl rfl rfl rfl rfl rfl rfl rfl rfl ?_ ?_ | refine AOps.toStr Try.hX kn rfl rfl rfl rfl rfl rfl rfl rfl rfl rfl rfl (by first | exact rfl | exact byte1 _) rfl ?_ | refine AOps.buildArr Try.hX kn rfl rfl rfl rfl rfl rfl rfl rfl ?_ | refine AOps.indexArr Try.hX kn rfl rfl rfl rfl rfl rfl rfl rfl rfl rfl rfl rfl ?_ | refine AOps.runP1 Try.hX kn rfl rfl ?_ | (refine AOps.splitT rfl rfl rfl asm (fun h => ?_) <;> (fail_if_success (cases h; done)) <;> rw [h]) | (refine AOps.splitF rfl rfl rfl asm (fun h => ?_) <;> (fail_if_success (cases h; done)) <;> rw [h]) | (refine AOps.split rfl rfl rfl (fun h => ?_) (fun h => ?_) <;> (fail_if_success (cases h; done)) <;> rw [h]) | refine AOps.drawn (by kernel_rfl) ?_)
    all_goals rfl
  by_cases c3 : kind > 3
  · have e2 : (bif decide (kind < 0) then true else decide (kind > 3)) = true := by rw [decide_eq_true c3]; simp
    have e3 : decide (kind < 0) = false := decide_eq_false c2
    have e4 : decide (kind > 3) = true := decide_eq_true c3
    rw [hbad 3 (by omega) (by simp only [wrong1, if_neg c1, c3, true_or, or_true, if_true])]
    clear ih
    repeat' (first | refine AK.runP Try.hX Try.mixed 300 rfl ?_ | refine AK.condTe rfl asm ?_ | refine AK.condFe rfl asm ?_ | (refine AK.condS rfl (fun h => ?_) (fun h => ?_) <;> first | (cases h; done) | rw [h] | skip) | refine AK.retQ Try.hX hf rfl rfl ?_ | refine AK.region Try.mixed rfl ?_ | refine AOps.done ?_ | refine AOps.runS Try.hX kn rfl ?_ | refine AOps.indexB Try.hX kn rfl rfl rfl rfl rfl rfl rfl rfl rfl done.length rfl hlt ?_ | refine AOps.loadB Try.hX kn rfl rfl rfl rfl rfl rfl hat rfl ?_ | refine AOps.callq kn rfl rfl rfl rfl (isPrim_calls p) ?_ | refine AOps.box kn rfl rfl rfl rfl rfl rfl ?_ | refine AOps.alloc Try.hX kn rfl rfl rfl rfl rfl rfl rfl ?_ | refine AOps.store Try.hX kn rfl rfl rfl rfl rfl rfl rfl rfl rfl rfl rfl ?_ | refine AOps.buildSlice Try.hX kn rfl rfl rfl rfl rfl rfl rfl rfl rfl rfl rfl rfl ?_ | refine AOps.append Try.hX kn rfl rfl rfl rfl rfl rfl rfl rfl rfl rfl rfl rfl rfl rfl rfl rfl rfl rfl rfl rfl rfl ?_ ?_ | refine AOps.toStr Try.hX kn rfl rfl rfl rfl rfl rfl rfl rfl rfl rfl rfl (by first | exact rfl | exact byte1 _) rfl ?_ | refine AOps.buildArr Try.hX kn rfl rfl rfl rfl rfl rfl rfl rfl ?_ | refine AOps.indexArr Try.hX kn rfl rfl rfl rfl rfl rfl rfl rfl rfl rfl rfl rfl ?_ | refine AOps.runP1 Try.hX kn rfl rfl ?_ | (refine AOps.splitT rfl rfl rfl asm (fun h => ?_) <;> (fail_if_success (cases h; done)) <;> rw [h]) | (refine AOps.splitF rfl rfl rfl asm (fun h => ?_) <;> (fail_if_success (cases h; done)) <;> rw [h]) | (refine AOps.split rfl rfl rfl (fun h => ?_) (fun h => ?_) <;> (fail_if_success (cases h; done)) <;> rw [h]) | refine AOps.drawn (by kernel_rfl) ?_)
    all_goals rfl
  have h4 : kind = 0 ∨ kind = 1 ∨ kind = 2 ∨ kind = 3 := by omega
  have hle1 : done.length + 1 ≤ (done ++ (Nd.mk kind nn p s args, d) :: todo).length := by rw [hll]; omega
  have hwi : IntKind.i64.wrap (((done.length : Nat) : Int) + 1) = ((done.length + 1 : Nat) : Int) := by rw [w64 (by omega) (by omega)]; omega
  have hdrop : dropN (0 + (done.length + 1) * 6) (rowCells (encDeeps (done ++ (Nd.mk kind nn p s args, d) :: todo))) = some (rowCells (encDeeps todo) ++ []) := by
    rw [deeps_drop _ _ hle1]
    have : (done ++ (Nd.mk kind nn p s args, d) :: todo).drop (done.length + 1) = todo := by
      rw [← List.drop_drop, List.drop_left]; rfl
    rw [this]
  have hsub : (done ++ (Nd.mk kind nn p s args, d) :: todo).length - (done.length + 1) = (encDeeps todo).length := by rw [hll, deeps_len]; omega
  rcases h4 with rfl | rfl | rfl | rfl
  · skip
    repeat' (first | refine AK.runP Try.hX Try.mixed 300 rfl ?_ | refine AK.condTe rfl asm ?_ | refine AK.condFe rfl asm ?_ | (refine AK.condS rfl (fun h => ?_) (fun h => ?_) <;> first | (cases h; done) | rw [h] | skip) | refine AK.retQ Try.hX hf rfl rfl ?_ | refine AK.region Try.mixed rfl ?_ | refine AOps.done ?_ | refine AOps.runS Try.hX kn rfl ?_ | refine AOps.indexB Try.hX kn rfl rfl rfl rfl rfl rfl rfl rfl rfl done.length rfl hlt ?_ | refine AOps.loadB Try.hX kn rfl rfl rfl rfl rfl rfl hat rfl ?_ | refine AOps.callq kn rfl rfl rfl rfl (isPrim_calls p) ?_ | refine AOps.callq kn rfl rfl rfl rfl (hIn) ?_ | refine AOps.sliceB Try.hX kn rfl rfl rfl rfl rfl rfl rfl rfl (l := some (done.length + 1)) (h := none) (bound_of rfl (done.length + 1) hwi) rfl (Nat.le_refl _) hle1 ?_ | refine AOps.appendF Try.hX kn rfl rfl rfl rfl rfl rfl rfl rfl rfl rfl rfl rfl rfl rfl (encDeeps todo) [] rfl hdrop hsub (deeps_shape todo) (by rw [deeps_flat, ← deeps_len, ← hsub]; rfl) (deeps_cells todo) rfl rfl (show ((done ++ (Nd.mk 0 nn p s args, d) :: todo).length - (done.length + 1)) * 72 ≤ 140737488355328 by omega) ?_ | refine AOps.sliceB Try.hX kn rfl rfl rfl rfl rfl rfl rfl rfl (l := none) (h := some (done.length + 1)) rfl (bound_of rfl (done.length + 1) hwi) hle1 (Nat.zero_le _) ?_ | refine AOps.box kn rfl rfl rfl rfl rfl rfl ?_ | refine AOps.alloc Try.hX kn rfl rfl rfl rfl rfl rfl rfl ?_ | refine AOps.store Try.hX kn rfl rfl rfl rfl rfl rfl rfl rfl rfl rfl rfl ?_ | refine AOps.buildSlice Try.hX kn rfl rfl rfl rfl rfl rfl rfl rfl rfl rfl rfl rfl ?_ | refine AOps.append Try.hX kn rfl rfl rfl rfl rfl rfl rfl rfl rfl rfl rfl rfl rfl rfl rfl rfl rfl rfl rfl rfl rfl ?_ ?_ | refine AOps.toStr Try.hX kn rfl rfl rfl rfl rfl rfl rfl rfl rfl rfl rfl (by first | exact rfl | exact byte1 _) rfl ?_ | refine AOps.buildArr Try.hX kn rfl rfl rfl rfl rfl rfl rfl rfl ?_ | refine AOps.indexArr Try.hX kn rfl rfl rfl rfl rfl rfl rfl rfl rfl rfl rfl rfl ?_ | refine AOps.runP1 Try.hX kn rfl rfl ?_ | (refine AOps.splitT rfl rfl rfl asm (fun h => ?_) <;> (fail_if_success (cases h; done)) <;> rw [h]) | (refine AOps.splitF rfl rfl rfl asm (fun h => ?_) <;> (fail_if_success (cases h; done)) <;> rw [h]) | (refine AOps.split rfl rfl rfl (fun h => ?_) (fun h => ?_) <;> (fail_if_success (cases h; done)) <;> rw [h]) | refine AOps.drawn (by kernel_rfl) ?_)
    all_goals first
      | (show (_ : CV) = _
         clear hf ih hIn hat hdrop hsub hall
         refine congrArg (CV.int .i64) ?_
         symm
         refine hbad _ (by omega) ?_
         clear hbad
         try simp only [encNds_length] at *
         unfold wrong1 maxI
         simp_all [nIn, List.length_pos_iff] <;> (repeat' split) <;> omega)
      | skip
    have hw1 : wrong1 (0) nn p s args.length d = 0 := by
      clear hf hIn ih hat hdrop hsub hall hbad
      try simp only [encNds_length] at *
      unfold wrong1 maxI
      simp_all [nIn, List.length_pos_iff] <;> (repeat' split) <;> omega
    refine AK.ren [(5, 5), (3000, 3000)] [] (env' := [(118, .c (.int .i64 (0 : Nat))), (117, .c (.int .i64 (encNds args).length)), (116, .c (.sl 5 (encNds args))), (6, .c (.sl 6 (encDeeps todo))), (4, .c (.int .i64 (done.length : Nat))), (5, .ptr 5 0), (3, .bsl 3000 0 6 (done.length + 1))])
      (bs' := [(5, [.c (.int .i64 0), .c (.int .i64 nn), .c (.int .i64 p), .c (.str s), .c (.sl 5 (encNds args)), .c (.int .i64 d)]), (3000, rowCells (encDeeps (done ++ (Nd.mk 0 nn p s args, d) :: todo)))]) (ts' := []) (us' := [5, 3000])
      ⟨⟨_, rfl, .inl rfl⟩, ⟨_, rfl, .inl rfl⟩, ⟨_, rfl, .inl rfl⟩, ⟨_, rfl, .inl rfl⟩, ⟨_, rfl, .inl rfl⟩, ⟨_, rfl, ⟨_, rfl, rfl⟩⟩, ⟨_, rfl, ⟨_, rfl, rfl⟩⟩, trivial⟩ ⟨⟨_, _, rfl, rfl, ⟨_, _, rfl, .inl rfl, ⟨_, _, rfl, .inl rfl, ⟨_, _, rfl, .inl rfl, ⟨_, _, rfl, .inl rfl, ⟨_, _, rfl, .inl rfl, ⟨_, _, rfl, .inl rfl, rfl⟩⟩⟩⟩⟩⟩⟩, ⟨_, rowCells _, rfl, rfl, convL_c _ _ _⟩, trivial⟩ rfl ?_
    refine AK.loopE (α := Nat × List AV) (fun z => z.1 ≤ args.length) (fun z => args.length - z.1)
      (fun z => [(118, .c (.int .i64 z.1)), (117, .c (.int .i64 (encNds args).length)), (116, .c (.sl 5 (encNds args))), (6, .c (.sl 6 (encDeeps todo))), (4, .c (.int .i64 (done.length : Nat))), (5, .ptr 5 0), (3, .bsl 3000 0 6 ((done ++ (Nd.mk 0 nn p s args, d) :: kidsAt (args.take z.1) (d + 1))).length)])
      (fun z => [(5, [.c (.int .i64 0), .c (.int .i64 nn), .c (.int .i64 p), .c (.str s), .c (.sl 5 (encNds args)), .c (.int .i64 d)]), (3000, rowCells (encDeeps ((done ++ (Nd.mk 0 nn p s args, d) :: kidsAt (args.take z.1) (d + 1)))) ++ z.2)]) (fun _ => []) [5, 3000] (0, rowCells (encDeeps todo))
      (Nat.zero_le _) ⟨.inl rfl, .inl rfl, .inl rfl, .inl rfl, .inl rfl, .inl rfl, .inl (congrArg (fun q => some (AV.bsl 3000 0 6 q)) (show done.length + 1 = ((done ++ (Nd.mk 0 nn p s args, d) :: kidsAt (args.take 0) (d + 1))).length from by simp [kidsAt])), trivial⟩ ⟨rfl, congrArg some (show rowCells (encDeeps (done ++ (Nd.mk 0 nn p s args, d) :: todo)) = rowCells (encDeeps ((done ++ (Nd.mk 0 nn p s args, d) :: kidsAt (args.take 0) (d + 1)))) ++ rowCells (encDeeps todo) from by rw [← rowCells_append, ← deeps_append]; simp [kidsAt]), trivial⟩ trivial rfl (okB_cons rfl rfl (okB_cons rfl (okAL_rows2 _ _ _) rfl)) rfl ?_
    rintro ⟨j, tail⟩ hj jh
    simp only at hj
    have hfl : ((done ++ (Nd.mk 0 nn p s args, d) :: kidsAt (args.take j) (d + 1))).length = done.length + 1 + j := by simp [kidsAt, List.length_take]; omega
    rcases get_or args j hj with ⟨y, hy, hm⟩ | he
    · have hcj := nds_lt hy
      have hjl := lt_of_get hy
      have hnext : (done ++ (Nd.mk 0 nn p s args, d) :: kidsAt (args.take (j + 1)) (d + 1)) = (done ++ (Nd.mk 0 nn p s args, d) :: kidsAt (args.take j) (d + 1)) ++ [(y, d + 1)] := by
        have : args.take (j + 1) = args.take j ++ [y] := by rw [List.take_add_one, hy]; rfl
        rw [this]; simp [kidsAt]
      have hdw : IntKind.i64.wrap (d + 1) = d + 1 := w64 (by omega) (by omega)
      obtain ⟨y1, y2, y3, y4, y5⟩ := y
      have hcs : encDeeps ((done ++ (Nd.mk 0 nn p s args, d) :: kidsAt (args.take j) (d + 1))) ++ [CV.agg [.int .i64 y1, .int .i64 y2, .int .i64 y3, .str y4, .sl 5 (encNds y5), .int .i64 (IntKind.i64.wrap (d + 1))]] = encDeeps ((done ++ (Nd.mk 0 nn p s args, d) :: kidsAt (args.take (j + 1)) (d + 1))) := by
        rw [hdw, hnext]; exact deeps_snoc _ (Nd.mk y1 y2 y3 y4 y5, d + 1)
      repeat' (first | refine AK.runP Try.hX Try.mixed 300 rfl ?_ | refine AK.condTe rfl asm ?_ | refine AK.condFe rfl asm ?_ | (refine AK.condS rfl (fun h => ?_) (fun h => ?_) <;> first | (cases h; done) | rw [h] | skip) | refine AK.retQ Try.hX hf rfl rfl ?_ | refine AK.region Try.mixed rfl ?_ | refine AOps.done ?_ | refine AOps.runS Try.hX kn rfl ?_ | refine AOps.index Try.hX rfl rfl rfl rfl rfl rfl rfl rfl rfl rfl (j) rfl (nds_at hy) rfl ?_ | refine AOps.appendB Try.hX kn rfl rfl rfl rfl rfl rfl rfl rfl rfl rfl rfl rfl rfl rfl rfl (encDeeps ((done ++ (Nd.mk 0 nn p s args, d) :: kidsAt (args.take j) (d + 1)))) tail rfl (deeps_len _).symm (deeps_flat _) rfl rfl rfl rfl rfl rfl rfl (show ((encDeeps ((done ++ (Nd.mk 0 nn p s args, d) :: kidsAt (args.take j) (d + 1)))).length + 1) * 72 ≤ 140737488355328 by rw [deeps_len, hfl]; omega) hcs (deeps_len ((done ++ (Nd.mk 0 nn p s args, d) :: kidsAt (args.take (j + 1)) (d + 1)))) rfl ?_ | refine AOps.box kn rfl rfl rfl rfl rfl rfl ?_ | refine AOps.alloc Try.hX kn rfl rfl rfl rfl rfl rfl rfl ?_ | refine AOps.store Try.hX kn rfl rfl rfl rfl rfl rfl rfl rfl rfl rfl rfl ?_ | refine AOps.buildSlice Try.hX kn rfl rfl rfl rfl rfl rfl rfl rfl rfl rfl rfl rfl ?_ | refine AOps.append Try.hX kn rfl rfl rfl rfl rfl rfl rfl rfl rfl rfl rfl rfl rfl rfl rfl rfl rfl rfl rfl rfl rfl ?_ ?_ | refine AOps.toStr Try.hX kn rfl rfl rfl rfl rfl rfl rfl rfl rfl rfl rfl (by first | exact rfl | exact byte1 _) rfl ?_ | refine AOps.buildArr Try.hX kn rfl rfl rfl rfl rfl rfl rfl rfl ?_ | refine AOps.indexArr Try.hX kn rfl rfl rfl rfl rfl rfl rfl rfl rfl rfl rfl rfl ?_ | refine AOps.runP1 Try.hX kn rfl rfl ?_ | (refine AOps.splitT rfl rfl rfl asm (fun h => ?_) <;> (fail_if_success (cases h; done)) <;> rw [h]) | (refine AOps.splitF rfl rfl rfl asm (fun h => ?_) <;> (fail_if_success (cases h; done)) <;> rw [h]) | (refine AOps.split rfl rfl rfl (fun h => ?_) (fun h => ?_) <;> (fail_if_success (cases h; done)) <;> rw [h]) | refine AOps.drawn (by kernel_rfl) ?_)
      refine AK.ren [(5, 5), (3000, 129)] [] (env' := [(118, .c (.int .i64 ((j + 1 : Nat) : Int))), (117, .c (.int .i64 (encNds args).length)), (116, .c (.sl 5 (encNds args))), (6, .c (.sl 6 (encDeeps todo))), (4, .c (.int .i64 (done.length : Nat))), (5, .ptr 5 0), (3, .bsl 3000 0 6 ((done ++ (Nd.mk 0 nn p s args, d) :: kidsAt (args.take (j + 1)) (d + 1))).length)])
        (bs' := [(5, [.c (.int .i64 0), .c (.int .i64 nn), .c (.int .i64 p), .c (.str s), .c (.sl 5 (encNds args)), .c (.int .i64 d)]), (3000, rowCells (encDeeps ((done ++ (Nd.mk 0 nn p s args, d) :: kidsAt (args.take (j + 1)) (d + 1)))) ++ [])]) (ts' := []) (us' := [5, 3000])
        ⟨⟨_, rfl, .inl (succ64' (i := j) (by omega))⟩, ⟨_, rfl, .inl rfl⟩, ⟨_, rfl, .inl rfl⟩, ⟨_, rfl, .inl rfl⟩, ⟨_, rfl, .inl rfl⟩, ⟨_, rfl, ⟨_, rfl, rfl⟩⟩, ⟨_, rfl, ⟨_, rfl, rfl⟩⟩, trivial⟩ ⟨⟨_, _, rfl, rfl, ⟨_, _, rfl, .inl rfl, ⟨_, _, rfl, .inl rfl, ⟨_, _, rfl, .inl rfl, ⟨_, _, rfl, .inl rfl, ⟨_, _, rfl, .inl rfl, ⟨_, _, rfl, .inl rfl, rfl⟩⟩⟩⟩⟩⟩⟩, ⟨_, _, rfl, rfl, convL_nil _⟩, trivial⟩ rfl ?_
      exact jh (j + 1, []) hjl (by show args.length - (j + 1) < args.length - j; omega)
    · have hcj := nds_end he
      have hfe : (done ++ (Nd.mk 0 nn p s args, d) :: kidsAt (args.take j) (d + 1)) = done ++ (Nd.mk 0 nn p s args, d) :: kidsAt args (d + 1) := by rw [he, List.take_length]
      clear jh
      have hcs : encDeeps ((done ++ (Nd.mk 0 nn p s args, d) :: kidsAt (args.take j) (d + 1))) ++ encDeeps todo = encDeeps ((done ++ [(Nd.mk 0 nn p s args, d)]) ++ (kidsAt args (d + 1) ++ todo)) := by
        rw [← deeps_append, hfe]; simp
      have htot : ((done ++ (Nd.mk 0 nn p s args, d) :: kidsAt (args.take j) (d + 1))).length + todo.length ≤ 3000000 := by rw [hfl]; omega
      repeat' (first | refine AK.runP Try.hX Try.mixed 300 rfl ?_ | refine AK.condTe rfl asm ?_ | refine AK.condFe rfl asm ?_ | (refine AK.condS rfl (fun h => ?_) (fun h => ?_) <;> first | (cases h; done) | rw [h] | skip) | refine AK.retQ Try.hX hf rfl rfl ?_ | refine AK.region Try.mixed rfl ?_ | refine AOps.done ?_ | refine AOps.runS Try.hX kn rfl ?_ | refine AOps.appendB Try.hX kn rfl rfl rfl rfl rfl rfl rfl rfl rfl rfl rfl rfl rfl rfl rfl (encDeeps ((done ++ (Nd.mk 0 nn p s args, d) :: kidsAt (args.take j) (d + 1)))) tail rfl (deeps_len _).symm (deeps_flat _) rfl rfl rfl rfl rfl rfl rfl (show ((encDeeps ((done ++ (Nd.mk 0 nn p s args, d) :: kidsAt (args.take j) (d + 1)))).length + (encDeeps todo).length) * 72 ≤ 140737488355328 by rw [deeps_len, deeps_len]; omega) hcs (deeps_len _) rfl ?_ | refine AOps.box kn rfl rfl rfl rfl rfl rfl ?_ | refine AOps.alloc Try.hX kn rfl rfl rfl rfl rfl rfl rfl ?_ | refine AOps.store Try.hX kn rfl rfl rfl rfl rfl rfl rfl rfl rfl rfl rfl ?_ | refine AOps.buildSlice Try.hX kn rfl rfl rfl rfl rfl rfl rfl rfl rfl rfl rfl rfl ?_ | refine AOps.append Try.hX kn rfl rfl rfl rfl rfl rfl rfl rfl rfl rfl rfl rfl rfl rfl rfl rfl rfl rfl rfl rfl rfl ?_ ?_ | refine AOps.toStr Try.hX kn rfl rfl rfl rfl rfl rfl rfl rfl rfl rfl rfl (by first | exact rfl | exact byte1 _) rfl ?_ | refine AOps.buildArr Try.hX kn rfl rfl rfl rfl rfl rfl rfl rfl ?_ | refine AOps.indexArr Try.hX kn rfl rfl rfl rfl rfl rfl rfl rfl rfl rfl rfl rfl ?_ | refine AOps.runP1 Try.hX kn rfl rfl ?_ | (refine AOps.splitT rfl rfl rfl asm (fun h => ?_) <;> (fail_if_success (cases h; done)) <;> rw [h]) | (refine AOps.splitF rfl rfl rfl asm (fun h => ?_) <;> (fail_if_success (cases h; done)) <;> rw [h]) | (refine AOps.split rfl rfl rfl (fun h => ?_) (fun h => ?_) <;> (fail_if_success (cases h; done)) <;> rw [h]) | refine AOps.drawn (by kernel_rfl) ?_)
      refine AK.ren [(3000, 133)] [] (env' := [(4, .c (.int .i64 (((done ++ [(Nd.mk 0 nn p s args, d)]).length : Nat) : Int))), (3, .bsl 3000 0 6 ((done ++ [(Nd.mk 0 nn p s args, d)]) ++ (kidsAt args (d + 1) ++ todo)).length)])
        (bs' := [(3000, rowCells (encDeeps ((done ++ [(Nd.mk 0 nn p s args, d)]) ++ (kidsAt args (d + 1) ++ todo))))]) (ts' := []) (us' := [3000])
        ⟨⟨_, rfl, .inl (congrArg (fun q => AV.c (CV.int .i64 q)) (show IntKind.i64.wrap (((done.length : Nat) : Int) + 1) = (((done ++ [(Nd.mk 0 nn p s args, d)]).length : Nat) : Int) from by rw [hwi]; simp))⟩, ⟨_, rfl, ⟨_, rfl, rfl⟩⟩, trivial⟩ ⟨⟨_, rowCells _, rfl, rfl, convL_c _ _ _⟩, trivial⟩ rfl ?_
      refine ih (done ++ [(Nd.mk 0 nn p s args, d)], kidsAt args (d + 1) ++ todo) ⟨?_, ?_, ?_⟩ ?_
      · rw [hW]; exact wl_step hw1
      · rw [hC, cnt_step]; simp; omega
      · intro x hx
        rcases List.mem_append.1 hx with hx | hx
        · obtain ⟨y, hy, rfl⟩ := List.mem_map.1 hx
          have := ndsSize_mem hy
          exact ⟨ndsWf_mem hxw.2.2.2 hy, by show ndSize y ≤ 1048577; omega, by show 1 ≤ d + 1; omega, by show d + 1 ≤ 25; omega⟩
        · exact hall x (List.mem_cons_of_mem _ hx)
      · show cnt (kidsAt args (d + 1) ++ todo) < cnt ((Nd.mk 0 nn p s args, d) :: todo)
        rw [cnt_step]; omega
  · skip
    repeat' (first | refine AK.runP Try.hX Try.mixed 300 rfl ?_ | refine AK.condTe rfl asm ?_ | refine AK.condFe rfl asm ?_ | (refine AK.condS rfl (fun h => ?_) (fun h => ?_) <;> first | (cases h; done) | rw [h] | skip) | refine AK.retQ Try.hX hf rfl rfl ?_ | refine AK.region Try.mixed rfl ?_ | refine AOps.done ?_ | refine AOps.runS Try.hX kn rfl ?_ | refine AOps.indexB Try.hX kn rfl rfl rfl rfl rfl rfl rfl rfl rfl done.length rfl hlt ?_ | refine AOps.loadB Try.hX kn rfl rfl rfl rfl rfl rfl hat rfl ?_ | refine AOps.callq kn rfl rfl rfl rfl (isPrim_calls p) ?_ | refine AOps.callq kn rfl rfl rfl rfl (hIn) ?_ | refine AOps.sliceB Try.hX kn rfl rfl rfl rfl rfl rfl rfl rfl (l := some (done.length + 1)) (h := none) (bound_of rfl (done.length + 1) hwi) rfl (Nat.le_refl _) hle1 ?_ | refine AOps.appendF Try.hX kn rfl rfl rfl rfl rfl rfl rfl rfl rfl rfl rfl rfl rfl rfl (encDeeps todo) [] rfl hdrop hsub (deeps_shape todo) (by rw [deeps_flat, ← deeps_len, ← hsub]; rfl) (deeps_cells todo) rfl rfl (show ((done ++ (Nd.mk 1 nn p s args, d) :: todo).length - (done.length + 1)) * 72 ≤ 140737488355328 by omega) ?_ | refine AOps.sliceB Try.hX kn rfl rfl rfl rfl rfl rfl rfl rfl (l := none) (h := some (done.length + 1)) rfl (bound_of rfl (done.length + 1) hwi) hle1 (Nat.zero_le _) ?_ | refine AOps.box kn rfl rfl rfl rfl rfl rfl ?_ | refine AOps.alloc Try.hX kn rfl rfl rfl rfl rfl rfl rfl ?_ | refine AOps.store Try.hX kn rfl rfl rfl rfl rfl rfl rfl rfl rfl rfl rfl ?_ | refine AOps.buildSlice Try.hX kn rfl rfl rfl rfl rfl rfl rfl rfl rfl rfl rfl rfl ?_ | refine AOps.append Try.hX kn rfl rfl rfl rfl rfl rfl rfl rfl rfl rfl rfl rfl rfl rfl rfl rfl rfl rfl rfl rfl rfl ?_ ?_ | refine AOps.toStr Try.hX kn rfl rfl rfl rfl rfl rfl rfl rfl rfl rfl rfl (by first | exact rfl | exact byte1 _) rfl ?_ | refine AOps.buildArr Try.hX kn rfl rfl rfl rfl rfl rfl rfl rfl ?_ | refine AOps.indexArr Try.hX kn rfl rfl rfl rfl rfl rfl rfl rfl rfl rfl rfl rfl ?_ | refine AOps.runP1 Try.hX kn rfl rfl ?_ | (refine AOps.splitT rfl rfl rfl asm (fun h => ?_) <;> (fail_if_success (cases h; done)) <;> rw [h]) | (refine AOps.splitF rfl rfl rfl asm (fun h => ?_) <;> (fail_if_success (cases h; done)) <;> rw [h]) | (refine AOps.split rfl rfl rfl (fun h => ?_) (fun h => ?_) <;> (fail_if_success (cases h; done)) <;> rw [h]) | refine AOps.drawn (by kernel_rfl) ?_)
    all_goals first
      | (show (_ : CV) = _
         clear hf ih hIn hat hdrop hsub hall
         refine congrArg (CV.int .i64) ?_
         symm
         refine hbad _ (by omega) ?_
         clear hbad
         try simp only [encNds_length] at *
         unfold wrong1 maxI
         simp_all [nIn, List.length_pos_iff] <;> (repeat' split) <;> omega)
      | skip
    have hw1 : wrong1 (1) nn p s args.length d = 0 := by
      clear hf hIn ih hat hdrop hsub hall hbad
      try simp only [encNds_length] at *
      unfold wrong1 maxI
      simp_all [nIn, List.length_pos_iff] <;> (repeat' split) <;> omega
    refine AK.ren [(5, 5), (3000, 3000)] [] (env' := [(118, .c (.int .i64 (0 : Nat))), (117, .c (.int .i64 (encNds args).length)), (116, .c (.sl 5 (encNds args))), (6, .c (.sl 6 (encDeeps todo))), (4, .c (.int .i64 (done.length : Nat))), (5, .ptr 5 0), (3, .bsl 3000 0 6 (done.length + 1))])
      (bs' := [(5, [.c (.int .i64 1), .c (.int .i64 nn), .c (.int .i64 p), .c (.str s), .c (.sl 5 (encNds args)), .c (.int .i64 d)]), (3000, rowCells (encDeeps (done ++ (Nd.mk 1 nn p s args, d) :: todo)))]) (ts' := []) (us' := [5, 3000])
      ⟨⟨_, rfl, .inl rfl⟩, ⟨_, rfl, .inl rfl⟩, ⟨_, rfl, .inl rfl⟩, ⟨_, rfl, .inl rfl⟩, ⟨_, rfl, .inl rfl⟩, ⟨_, rfl, ⟨_, rfl, rfl⟩⟩, ⟨_, rfl, ⟨_, rfl, rfl⟩⟩, trivial⟩ ⟨⟨_, _, rfl, rfl, ⟨_, _, rfl, .inl rfl, ⟨_, _, rfl, .inl rfl, ⟨_, _, rfl, .inl rfl, ⟨_, _, rfl, .inl rfl, ⟨_, _, rfl, .inl rfl, ⟨_, _, rfl, .inl rfl, rfl⟩⟩⟩⟩⟩⟩⟩, ⟨_, rowCells _, rfl, rfl, convL_c _ _ _⟩, trivial⟩ rfl ?_
    refine AK.loopE (α := Nat × List AV) (fun z => z.1 ≤ args.length) (fun z => args.length - z.1)
      (fun z => [(118, .c (.int .i64 z.1)), (117, .c (.int .i64 (encNds args).length)), (116, .c (.sl 5 (encNds args))), (6, .c (.sl 6 (encDeeps todo))), (4, .c (.int .i64 (done.length : Nat))), (5, .ptr 5 0), (3, .bsl 3000 0 6 ((done ++ (Nd.mk 1 nn p s args, d) :: kidsAt (args.take z.1) (d + 1))).length)])
      (fun z => [(5, [.c (.int .i64 1), .c (.int .i64 nn), .c (.int .i64 p), .c (.str s), .c (.sl 5 (encNds args)), .c (.int .i64 d)]), (3000, rowCells (encDeeps ((done ++ (Nd.mk 1 nn p s args, d) :: kidsAt (args.take z.1) (d + 1)))) ++ z.2)]) (fun _ => []) [5, 3000] (0, rowCells (encDeeps todo))
      (Nat.zero_le _) ⟨.inl rfl, .inl rfl, .inl rfl, .inl rfl, .inl rfl, .inl rfl, .inl (congrArg (fun q => some (AV.bsl 3000 0 6 q)) (show done.length + 1 = ((done ++ (Nd.mk 1 nn p s args, d) :: kidsAt (args.take 0) (d + 1))).length from by simp [kidsAt])), trivial⟩ ⟨rfl, congrArg some (show rowCells (encDeeps (done ++ (Nd.mk 1 nn p s args, d) :: todo)) = rowCells (encDeeps ((done ++ (Nd.mk 1 nn p s args, d) :: kidsAt (args.take 0) (d + 1)))) ++ rowCells (encDeeps todo) from by rw [← rowCells_append, ← deeps_append]; simp [kidsAt]), trivial⟩ trivial rfl (okB_cons rfl rfl (okB_cons rfl (okAL_rows2 _ _ _) rfl)) rfl ?_
    rintro ⟨j, tail⟩ hj jh
    simp only at hj
    have hfl : ((done ++ (Nd.mk 1 nn p s args, d) :: kidsAt (args.take j) (d + 1))).length = done.length + 1 + j := by simp [kidsAt, List.length_take]; omega
    rcases get_or args j hj with ⟨y, hy, hm⟩ | he
    · have hcj := nds_lt hy
      have hjl := lt_of_get hy
      have hnext : (done ++ (Nd.mk 1 nn p s args, d) :: kidsAt (args.take (j + 1)) (d + 1)) = (done ++ (Nd.mk 1 nn p s args, d) :: kidsAt (args.take j) (d + 1)) ++ [(y, d + 1)] := by
        have : args.take (j + 1) = args.take j ++ [y] := by rw [List.take_add_one, hy]; rfl
        rw [this]; simp [kidsAt]
      have hdw : IntKind.i64.wrap (d + 1) = d + 1 := w64 (by omega) (by omega)
      obtain ⟨y1, y2, y3, y4, y5⟩ := y
      have hcs : encDeeps ((done ++ (Nd.mk 1 nn p s args, d) :: kidsAt (args.take j) (d + 1))) ++ [CV.agg [.int .i64 y1, .int .i64 y2, .int .i64 y3, .str y4, .sl 5 (encNds y5), .int .i64 (IntKind.i64.wrap (d + 1))]] = encDeeps ((done ++ (Nd.mk 1 nn p s args, d) :: kidsAt (args.take (j + 1)) (d + 1))) := by
        rw [hdw, hnext]; exact deeps_snoc _ (Nd.mk y1 y2 y3 y4 y5, d + 1)
      repeat' (first | refine AK.runP Try.hX Try.mixed 300 rfl ?_ | refine AK.condTe rfl asm ?_ | refine AK.condFe rfl asm ?_ | (refine AK.condS rfl (fun h => ?_) (fun h => ?_) <;> first | (cases h; done) | rw [h] | skip) | refine AK.retQ Try.hX hf rfl rfl ?_ | refine AK.region Try.mixed rfl ?_ | refine AOps.done ?_ | refine AOps.runS Try.hX kn rfl ?_ | refine AOps.index Try.hX rfl rfl rfl rfl rfl rfl rfl rfl rfl rfl (j) rfl (nds_at hy) rfl ?_ | refine AOps.appendB Try.hX kn rfl rfl rfl rfl rfl rfl rfl rfl rfl rfl rfl rfl rfl rfl rfl (encDeeps ((done ++ (Nd.mk 1 nn p s args, d) :: kidsAt (args.take j) (d + 1)))) tail rfl (deeps_len _).symm (deeps_flat _) rfl rfl rfl rfl rfl rfl rfl (show ((encDeeps ((done ++ (Nd.mk 1 nn p s args, d) :: kidsAt (args.take j) (d + 1)))).length + 1) * 72 ≤ 140737488355328 by rw [deeps_len, hfl]; omega) hcs (deeps_len ((done ++ (Nd.mk 1 nn p s args, d) :: kidsAt (args.take (j + 1)) (d + 1)))) rfl ?_ | refine AOps.box kn rfl rfl rfl rfl rfl rfl ?_ | refine AOps.alloc Try.hX kn rfl rfl rfl rfl rfl rfl rfl ?_ | refine AOps.store Try.hX kn rfl rfl rfl rfl rfl rfl rfl rfl rfl rfl rfl ?_ | refine AOps.buildSlice Try.hX kn rfl rfl rfl rfl rfl rfl rfl rfl rfl rfl rfl rfl ?_ | refine AOps.append Try.hX kn rfl rfl rfl rfl rfl rfl rfl rfl rfl rfl rfl rfl rfl rfl rfl rfl rfl rfl rfl rfl rfl ?_ ?_ | refine AOps.toStr Try.hX kn rfl rfl rfl rfl rfl rfl rfl rfl rfl rfl rfl (by first | exact rfl | exact byte1 _) rfl ?_ | refine AOps.buildArr Try.hX kn rfl rfl rfl rfl rfl rfl rfl rfl ?_ | refine AOps.indexArr Try.hX kn rfl rfl rfl rfl rfl rfl rfl rfl rfl rfl rfl rfl ?_ | refine AOps.runP1 Try.hX kn rfl rfl ?_ | (refine AOps.splitT rfl rfl rfl asm (fun h => ?_) <;> (fail_if_success (cases h; done)) <;> rw [h]) | (refine AOps.splitF rfl rfl rfl asm (fun h => ?_) <;> (fail_if_success (cases h; done)) <;> rw [h]) | (refine AOps.split rfl rfl rfl (fun h => ?_) (fun h => ?_) <;> (fail_if_success (cases h; done)) <;> rw [h]) | refine AOps.drawn (by kernel_rfl) ?_)
      refine AK.ren [(5, 5), (3000, 129)] [] (env' := [(118, .c (.int .i64 ((j + 1 : Nat) : Int))), (117, .c (.int .i64 (encNds args).length)), (116, .c (.sl 5 (encNds args))), (6, .c (.sl 6 (encDeeps todo))), (4, .c (.int .i64 (done.length : Nat))), (5, .ptr 5 0), (3, .bsl 3000 0 6 ((done ++ (Nd.mk 1 nn p s args, d) :: kidsAt (args.take (j + 1)) (d + 1))).length)])
        (bs' := [(5, [.c (.int .i64 1), .c (.int .i64 nn), .c (.int .i64 p), .c (.str s), .c (.sl 5 (encNds args)), .c (.int .i64 d)]), (3000, rowCells (encDeeps ((done ++ (Nd.mk 1 nn p s args, d) :: kidsAt (args.take (j + 1)) (d + 1)))) ++ [])]) (ts' := []) (us' := [5, 3000])
        ⟨⟨_, rfl, .inl (succ64' (i := j) (by omega))⟩, ⟨_, rfl, .inl rfl⟩, ⟨_, rfl, .inl rfl⟩, ⟨_, rfl, .inl rfl⟩, ⟨_, rfl, .inl rfl⟩, ⟨_, rfl, ⟨_, rfl, rfl⟩⟩, ⟨_, rfl, ⟨_, rfl, rfl⟩⟩, trivial⟩ ⟨⟨_, _, rfl, rfl, ⟨_, _, rfl, .inl rfl, ⟨_, _, rfl, .inl rfl, ⟨_, _, rfl, .inl rfl, ⟨_, _, rfl, .inl rfl, ⟨_, _, rfl, .inl rfl, ⟨_, _, rfl, .inl rfl, rfl⟩⟩⟩⟩⟩⟩⟩, ⟨_, _, rfl, rfl, convL_nil _⟩, trivial⟩ rfl ?_
      exact jh (j + 1, []) hjl (by show args.length - (j + 1) < args.length - j; omega)
    · have hcj := nds_end he
      have hfe : (done ++ (Nd.mk 1 nn p s args, d) :: kidsAt (args.take j) (d + 1)) = done ++ (Nd.mk 1 nn p s args, d) :: kidsAt args (d + 1) := by rw [he, List.take_length]
      clear jh
      have hcs : encDeeps ((done ++ (Nd.mk 1 nn p s args, d) :: kidsAt (args.take j) (d + 1))) ++ encDeeps todo = encDeeps ((done ++ [(Nd.mk 1 nn p s args, d)]) ++ (kidsAt args (d + 1) ++ todo)) := by
        rw [← deeps_append, hfe]; simp
      have htot : ((done ++ (Nd.mk 1 nn p s args, d) :: kidsAt (args.take j) (d + 1))).length + todo.length ≤ 3000000 := by rw [hfl]; omega
      repeat' (first | refine AK.runP Try.hX Try.mixed 300 rfl ?_ | refine AK.condTe rfl asm ?_ | refine AK.condFe rfl asm ?_ | (refine AK.condS rfl (fun h => ?_) (fun h => ?_) <;> first | (cases h; done) | rw [h] | skip) | refine AK.retQ Try.hX hf rfl rfl ?_ | refine AK.region Try.mixed rfl ?_ | refine AOps.done ?_ | refine AOps.runS Try.hX kn rfl ?_ | refine AOps.appendB Try.hX kn rfl rfl rfl rfl rfl rfl rfl rfl rfl rfl rfl rfl rfl rfl rfl (encDeeps ((done ++ (Nd.mk 1 nn p s args, d) :: kidsAt (args.take j) (d + 1)))) tail rfl (deeps_len _).symm (deeps_flat _) rfl rfl rfl rfl rfl rfl rfl (show ((encDeeps ((done ++ (Nd.mk 1 nn p s args, d) :: kidsAt (args.take j) (d + 1)))).length + (encDeeps todo).length) * 72 ≤ 140737488355328 by rw [deeps_len, deeps_len]; omega) hcs (deeps_len _) rfl ?_ | refine AOps.box kn rfl rfl rfl rfl rfl rfl ?_ | refine AOps.alloc Try.hX kn rfl rfl rfl rfl rfl rfl rfl ?_ | refine AOps.store Try.hX kn rfl rfl rfl rfl rfl rfl rfl rfl rfl rfl rfl ?_ | refine AOps.buildSlice Try.hX kn rfl rfl rfl rfl rfl rfl rfl rfl rfl rfl rfl rfl ?_ | refine AOps.append Try.hX kn rfl rfl rfl rfl rfl rfl rfl rfl rfl rfl rfl rfl rfl rfl rfl rfl rfl rfl rfl rfl rfl ?_ ?_ | refine AOps.toStr Try.hX kn rfl rfl rfl rfl rfl rfl rfl rfl rfl rfl rfl (by first | exact rfl | exact byte1 _) rfl ?_ | refine AOps.buildArr Try.hX kn rfl rfl rfl rfl rfl rfl rfl rfl ?_ | refine AOps.indexArr Try.hX kn rfl rfl rfl rfl rfl rfl rfl rfl rfl rfl rfl rfl ?_ | refine AOps.runP1 Try.hX kn rfl rfl ?_ | (refine AOps.splitT rfl rfl rfl asm (fun h => ?_) <;> (fail_if_success (cases h; done)) <;> rw [h]) | (refine AOps.splitF rfl rfl rfl asm (fun h => ?_) <;> (fail_if_success (cases h; done)) <;> rw [h]) | (refine AOps.split rfl rfl rfl (fun h => ?_) (fun h => ?_) <;> (fail_if_success (cases h; done)) <;> rw [h]) | refine AOps.drawn (by kernel_rfl) ?_)
      refine AK.ren [(3000, 133)] [] (env' := [(4, .c (.int .i64 (((done ++ [(Nd.mk 1 nn p s args, d)]).length : Nat) : Int))), (3, .bsl 3000 0 6 ((done ++ [(Nd.mk 1 nn p s args, d)]) ++ (kidsAt args (d + 1) ++ todo)).length)])
        (bs' := [(3000, rowCells (encDeeps ((done ++ [(Nd.mk 1 nn p s args, d)]) ++ (kidsAt args (d + 1) ++ todo))))]) (ts' := []) (us' := [3000])
        ⟨⟨_, rfl, .inl (congrArg (fun q => AV.c (CV.int .i64 q)) (show IntKind.i64.wrap (((done.length : Nat) : Int) + 1) = (((done ++ [(Nd.mk 1 nn p s args, d)]).length : Nat) : Int) from by rw [hwi]; simp))⟩, ⟨_, rfl, ⟨_, rfl, rfl⟩⟩, trivial⟩ ⟨⟨_, rowCells _, rfl, rfl, convL_c _ _ _⟩, trivial⟩ rfl ?_
      refine ih (done ++ [(Nd.mk 1 nn p s args, d)], kidsAt args (d + 1) ++ todo) ⟨?_, ?_, ?_⟩ ?_
      · rw [hW]; exact wl_step hw1
      · rw [hC, cnt_step]; simp; omega
      · intro x hx
        rcases List.mem_append.1 hx with hx | hx
        · obtain ⟨y, hy, rfl⟩ := List.mem_map.1 hx
          have := ndsSize_mem hy
          exact ⟨ndsWf_mem hxw.2.2.2 hy, by show ndSize y ≤ 1048577; omega, by show 1 ≤ d + 1; omega, by show d + 1 ≤ 25; omega⟩
        · exact hall x (List.mem_cons_of_mem _ hx)
      · show cnt (kidsAt args (d + 1) ++ todo) < cnt ((Nd.mk 1 nn p s args, d) :: todo)
        rw [cnt_step]; omega
  · skip
    repeat' (first | refine AK.runP Try.hX Try.mixed 300 rfl ?_ | refine AK.condTe rfl asm ?_ | refine AK.condFe rfl asm ?_ | (refine AK.condS rfl (fun h => ?_) (fun h => ?_) <;> first | (cases h; done) | rw [h] | skip) | refine AK.retQ Try.hX hf rfl rfl ?_ | refine AK.region Try.mixed rfl ?_ | refine AOps.done ?_ | refine AOps.runS Try.hX kn rfl ?_ | refine AOps.indexB Try.hX kn rfl rfl rfl rfl rfl rfl rfl rfl rfl done.length rfl hlt ?_ | refine AOps.loadB Try.hX kn rfl rfl rfl rfl rfl rfl hat rfl ?_ | refine AOps.callq kn rfl rfl rfl rfl (isPrim_calls p) ?_ | refine AOps.callq kn rfl rfl rfl rfl (hIn) ?_ | refine AOps.sliceB Try.hX kn rfl rfl rfl rfl rfl rfl rfl rfl (l := some (done.length + 1)) (h := none) (bound_of rfl (done.length + 1) hwi) rfl (Nat.le_refl _) hle1 ?_ | refine AOps.appendF Try.hX kn rfl rfl rfl rfl rfl rfl rfl rfl rfl rfl rfl rfl rfl rfl (encDeeps todo) [] rfl hdrop hsub (deeps_shape todo) (by rw [deeps_flat, ← deeps_len, ← hsub]; rfl) (deeps_cells todo) rfl rfl (show ((done ++ (Nd.mk 2 nn p s args, d) :: todo).length - (done.length + 1)) * 72 ≤ 140737488355328 by omega) ?_ | refine AOps.sliceB Try.hX kn rfl rfl rfl rfl rfl rfl rfl rfl (l := none) (h := some (done.length + 1)) rfl (bound_of rfl (done.length + 1) hwi) hle1 (Nat.zero_le _) ?_ | refine AOps.box kn rfl rfl rfl rfl rfl rfl ?_ | refine AOps.alloc Try.hX kn rfl rfl rfl rfl rfl rfl rfl ?_ | refine AOps.store Try.hX kn rfl rfl rfl rfl rfl rfl rfl rfl rfl rfl rfl ?_ | refine AOps.buildSlice Try.hX kn rfl rfl rfl rfl rfl rfl rfl rfl rfl rfl rfl rfl ?_ | refine AOps.append Try.hX kn rfl rfl rfl rfl rfl rfl rfl rfl rfl rfl rfl rfl rfl rfl rfl rfl rfl rfl rfl rfl rfl ?_ ?_ | refine AOps.toStr Try.hX kn rfl rfl rfl rfl rfl rfl rfl rfl rfl rfl rfl (by first | exact rfl | exact byte1 _) rfl ?_ | refine AOps.buildArr Try.hX kn rfl rfl rfl rfl rfl rfl rfl rfl ?_ | refine AOps.indexArr Try.hX kn rfl rfl rfl rfl rfl rfl rfl rfl rfl rfl rfl rfl ?_ | refine AOps.runP1 Try.hX kn rfl rfl ?_ | (refine AOps.splitT rfl rfl rfl asm (fun h => ?_) <;> (fail_if_success (cases h; done)) <;> rw [h]) | (refine AOps.splitF rfl rfl rfl asm (fun h => ?_) <;> (fail_if_success (cases h; done)) <;> rw [h]) | (refine AOps.split rfl rfl rfl (fun h => ?_) (fun h => ?_) <;> (fail_if_success (cases h; done)) <;> rw [h]) | refine AOps.drawn (by kernel_rfl) ?_)
    all_goals first
      | (show (_ : CV) = _
         clear hf ih hIn hat hdrop hsub hall
         refine congrArg (CV.int .i64) ?_
         symm
         refine hbad _ (by omega) ?_
         clear hbad
         try simp only [encNds_length] at *
         unfold wrong1 maxI
         simp_all [nIn, List.length_pos_iff] <;> (repeat' split) <;> omega)
      | skip
    have hw1 : wrong1 (2) nn p s args.length d = 0 := by
      clear hf hIn ih hat hdrop hsub hall hbad
      try simp only [encNds_length] at *
      unfold wrong1 maxI
      simp_all [nIn, List.length_pos_iff] <;> (repeat' split) <;> omega
    refine AK.ren [(5, 5), (3000, 3000)] [] (env' := [(118, .c (.int .i64 (0 : Nat))), (117, .c (.int .i64 (encNds args).length)), (116, .c (.sl 5 (encNds args))), (6, .c (.sl 6 (encDeeps todo))), (4, .c (.int .i64 (done.length : Nat))), (5, .ptr 5 0), (3, .bsl 3000 0 6 (done.length + 1))])
      (bs' := [(5, [.c (.int .i64 2), .c (.int .i64 nn), .c (.int .i64 p), .c (.str s), .c (.sl 5 (encNds args)), .c (.int .i64 d)]), (3000, rowCells (encDeeps (done ++ (Nd.mk 2 nn p s args, d) :: todo)))]) (ts' := []) (us' := [5, 3000])
      ⟨⟨_, rfl, .inl rfl⟩, ⟨_, rfl, .inl rfl⟩, ⟨_, rfl, .inl rfl⟩, ⟨_, rfl, .inl rfl⟩, ⟨_, rfl, .inl rfl⟩, ⟨_, rfl, ⟨_, rfl, rfl⟩⟩, ⟨_, rfl, ⟨_, rfl, rfl⟩⟩, trivial⟩ ⟨⟨_, _, rfl, rfl, ⟨_, _, rfl, .inl rfl, ⟨_, _, rfl, .inl rfl, ⟨_, _, rfl, .inl rfl, ⟨_, _, rfl, .inl rfl, ⟨_, _, rfl, .inl rfl, ⟨_, _, rfl, .inl rfl, rfl⟩⟩⟩⟩⟩⟩⟩, ⟨_, rowCells _, rfl, rfl, convL_c _ _ _⟩, trivial⟩ rfl ?_
    refine AK.loopE (α := Nat × List AV) (fun z => z.1 ≤ args.length) (fun z => args.length - z.1)
      (fun z => [(118, .c (.int .i64 z.1)), (117, .c (.int .i64 (encNds args).length)), (116, .c (.sl 5 (encNds args))), (6, .c (.sl 6 (encDeeps todo))), (4, .c (.int .i64 (done.length : Nat))), (5, .ptr 5 0), (3, .bsl 3000 0 6 ((done ++ (Nd.mk 2 nn p s args, d) :: kidsAt (args.take z.1) (d + 1))).length)])
      (fun z => [(5, [.c (.int .i64 2), .c (.int .i64 nn), .c (.int .i64 p), .c (.str s), .c (.sl 5 (encNds args)), .c (.int .i64 d)]), (3000, rowCells (encDeeps ((done ++ (Nd.mk 2 nn p s args, d) :: kidsAt (args.take z.1) (d + 1)))) ++ z.2)]) (fun _ => []) [5, 3000] (0, rowCells (encDeeps todo))
      (Nat.zero_le _) ⟨.inl rfl, .inl rfl, .inl rfl, .inl rfl, .inl rfl, .inl rfl, .inl (congrArg (fun q => some (AV.bsl 3000 0 6 q)) (show done.length + 1 = ((done ++ (Nd.mk 2 nn p s args, d) :: kidsAt (args.take 0) (d + 1))).length from by simp [kidsAt])), trivial⟩ ⟨rfl, congrArg some (show rowCells (encDeeps (done ++ (Nd.mk 2 nn p s args, d) :: todo)) = rowCells (encDeeps ((done ++ (Nd.mk 2 nn p s args, d) :: kidsAt (args.take 0) (d + 1)))) ++ rowCells (encDeeps todo) from by rw [← rowCells_append, ← deeps_append]; simp [kidsAt]), trivial⟩ trivial rfl (okB_cons rfl rfl (okB_cons rfl (okAL_rows2 _ _ _) rfl)) rfl ?_
    rintro ⟨j, tail⟩ hj jh
    simp only at hj
    have hfl : ((done ++ (Nd.mk 2 nn p s args, d) :: kidsAt (args.take j) (d + 1))).length = done.length + 1 + j := by simp [kidsAt, List.length_take]; omega
    rcases get_or args j hj with ⟨y, hy, hm⟩ | he
    · have hcj := nds_lt hy
      have hjl := lt_of_get hy
      have hnext : (done ++ (Nd.mk 2 nn p s args, d) :: kidsAt (args.take (j + 1)) (d + 1)) = (done ++ (Nd.mk 2 nn p s args, d) :: kidsAt (args.take j) (d + 1)) ++ [(y, d + 1)] := by
        have : args.take (j + 1) = args.take j ++ [y] := by rw [List.take_add_one, hy]; rfl
        rw [this]; simp [kidsAt]
      have hdw : IntKind.i64.wrap (d + 1) = d + 1 := w64 (by omega) (by omega)
      obtain ⟨y1, y2, y3, y4, y5⟩ := y
      have hcs : encDeeps ((done ++ (Nd.mk 2 nn p s args, d) :: kidsAt (args.take j) (d + 1))) ++ [CV.agg [.int .i64 y1, .int .i64 y2, .int .i64 y3, .str y4, .sl 5 (encNds y5), .int .i64 (IntKind.i64.wrap (d + 1))]] = encDeeps ((done ++ (Nd.mk 2 nn p s args, d) :: kidsAt (args.take (j + 1)) (d + 1))) := by
        rw [hdw, hnext]; exact deeps_snoc _ (Nd.mk y1 y2 y3 y4 y5, d + 1)
      repeat' (first | refine AK.runP Try.hX Try.mixed 300 rfl ?_ | refine AK.condTe rfl asm ?_ | refine AK.condFe rfl asm ?_ | (refine AK.condS rfl (fun h => ?_) (fun h => ?_) <;> first | (cases h; done) | rw [h] | skip) | refine AK.retQ Try.hX hf rfl rfl ?_ | refine AK.region Try.mixed rfl ?_ | refine AOps.done ?_ | refine AOps.runS Try.hX kn rfl ?_ | refine AOps.index Try.hX rfl rfl rfl rfl rfl rfl rfl rfl rfl rfl (j) rfl (nds_at hy) rfl ?_ | refine AOps.appendB Try.hX kn rfl rfl rfl rfl rfl rfl rfl rfl rfl rfl rfl rfl rfl rfl rfl (encDeeps ((done ++ (Nd.mk 2 nn p s args, d) :: kidsAt (args.take j) (d + 1)))) tail rfl (deeps_len _).symm (deeps_flat _) rfl rfl rfl rfl rfl rfl rfl (show ((encDeeps ((done ++ (Nd.mk 2 nn p s args, d) :: kidsAt (args.take j) (d + 1)))).length + 1) * 72 ≤ 140737488355328 by rw [deeps_len, hfl]; omega) hcs (deeps_len ((done ++ (Nd.mk 2 nn p s args, d) :: kidsAt (args.take (j + 1)) (d + 1)))) rfl ?_ | refine AOps.box kn rfl rfl rfl rfl rfl rfl ?_ | refine AOps.alloc Try.hX kn rfl rfl rfl rfl rfl rfl rfl ?_ | refine AOps.store Try.hX kn rfl rfl rfl rfl rfl rfl rfl rfl rfl rfl rfl ?_ | refine AOps.buildSlice Try.hX kn rfl rfl rfl rfl rfl rfl rfl rfl rfl rfl rfl rfl ?_ | refine AOps.append Try.hX kn rfl rfl rfl rfl rfl rfl rfl rfl rfl rfl rfl rfl rfl rfl rfl rfl rfl rfl rfl rfl rfl ?_ ?_ | refine AOps.toStr Try.hX kn rfl rfl rfl rfl rfl rfl rfl rfl rfl rfl rfl (by first | exact rfl | exact byte1 _) rfl ?_ | refine AOps.buildArr Try.hX kn rfl rfl rfl rfl rfl rfl rfl rfl ?_ | refine AOps.indexArr Try.hX kn rfl rfl rfl rfl rfl rfl rfl rfl rfl rfl rfl rfl ?_ | refine AOps.runP1 Try.hX kn rfl rfl ?_ | (refine AOps.splitT rfl rfl rfl asm (fun h => ?_) <;> (fail_if_success (cases h; done)) <;> rw [h]) | (refine AOps.splitF rfl rfl rfl asm (fun h => ?_) <;> (fail_if_success (cases h; done)) <;> rw [h]) | (refine AOps.split rfl rfl rfl (fun h => ?_) (fun h => ?_) <;> (fail_if_success (cases h; done)) <;> rw [h]) | refine AOps.drawn (by kernel_rfl) ?_)
      refine AK.ren [(5, 5), (3000, 129)] [] (env' := [(118, .c (.int .i64 ((j + 1 : Nat) : Int))), (117, .c (.int .i64 (encNds args).length)), (116, .c (.sl 5 (encNds args))), (6, .c (.sl 6 (encDeeps todo))), (4, .c (.int .i64 (done.length : Nat))), (5, .ptr 5 0), (3, .bsl 3000 0 6 ((done ++ (Nd.mk 2 nn p s args, d) :: kidsAt (args.take (j + 1)) (d + 1))).length)])
        (bs' := [(5, [.c (.int .i64 2), .c (.int .i64 nn), .c (.int .i64 p), .c (.str s), .c (.sl 5 (encNds args)), .c (.int .i64 d)]), (3000, rowCells (encDeeps ((done ++ (Nd.mk 2 nn p s args, d) :: kidsAt (args.take (j + 1)) (d + 1)))) ++ [])]) (ts' := []) (us' := [5, 3000])
        ⟨⟨_, rfl, .inl (succ64' (i := j) (by omega))⟩, ⟨_, rfl, .inl rfl⟩, ⟨_, rfl, .inl rfl⟩, ⟨_, rfl, .inl rfl⟩, ⟨_, rfl, .inl rfl⟩, ⟨_, rfl, ⟨_, rfl, rfl⟩⟩, ⟨_, rfl, ⟨_, rfl, rfl⟩⟩, trivial⟩ ⟨⟨_, _, rfl, rfl, ⟨_, _, rfl, .inl rfl, ⟨_, _, rfl, .inl rfl, ⟨_, _, rfl, .inl rfl, ⟨_, _, rfl, .inl rfl, ⟨_, _, rfl, .inl rfl, ⟨_, _, rfl, .inl rfl, rfl⟩⟩⟩⟩⟩⟩⟩, ⟨_, _, rfl, rfl, convL_nil _⟩, trivial⟩ rfl ?_
      exact jh (j + 1, []) hjl (by show args.length - (j + 1) < args.length - j; omega)
    · have hcj := nds_end he
      have hfe : (done ++ (Nd.mk 2 nn p s args, d) :: kidsAt (args.take j) (d + 1)) = done ++ (Nd.mk 2 nn p s args, d) :: kidsAt args (d + 1) := by rw [he, List.take_length]
      clear jh
      have hcs : encDeeps ((done ++ (Nd.mk 2 nn p s args, d) :: kidsAt (args.take j) (d + 1))) ++ encDeeps todo = encDeeps ((done ++ [(Nd.mk 2 nn p s args, d)]) ++ (kidsAt args (d + 1) ++ todo)) := by
        rw [← deeps_append, hfe]; simp
      have htot : ((done ++ (Nd.mk 2 nn p s args, d) :: kidsAt (args.take j) (d + 1))).length + todo.length ≤ 3000000 := by rw [hfl]; omega
      repeat' (first | refine AK.runP Try.hX Try.mixed 300 rfl ?_ | refine AK.condTe rfl asm ?_ | refine AK.condFe rfl asm ?_ | (refine AK.condS rfl (fun h => ?_) (fun h => ?_) <;> first | (cases h; done) | rw [h] | skip) | refine AK.retQ Try.hX hf rfl rfl ?_ | refine AK.region Try.mixed rfl ?_ | refine AOps.done ?_ | refine AOps.runS Try.hX kn rfl ?_ | refine AOps.appendB Try.hX kn rfl rfl rfl rfl rfl rfl rfl rfl rfl rfl rfl rfl rfl rfl rfl (encDeeps ((done ++ (Nd.mk 2 nn p s args, d) :: kidsAt (args.take j) (d + 1)))) tail rfl (deeps_len _).symm (deeps_flat _) rfl rfl rfl rfl rfl rfl rfl (show ((encDeeps ((done ++ (Nd.mk 2 nn p s args, d) :: kidsAt (args.take j) (d + 1)))).length + (encDeeps todo).length) * 72 ≤ 140737488355328 by rw [deeps_len, deeps_len]; omega) hcs (deeps_len _) rfl ?_ | refine AOps.box kn rfl rfl rfl rfl rfl rfl ?_ | refine AOps.alloc Try.hX kn rfl rfl rfl rfl rfl rfl rfl ?_ | refine AOps.store Try.hX kn rfl rfl rfl rfl rfl rfl rfl rfl rfl rfl rfl ?_ | refine AOps.buildSlice Try.hX kn rfl rfl rfl rfl rfl rfl rfl rfl rfl rfl rfl rfl ?_ | refine AOps.append Try.hX kn rfl rfl rfl rfl rfl rfl rfl rfl rfl rfl rfl rfl rfl rfl rfl rfl rfl rfl rfl rfl rfl ?_ ?_ | refine AOps.toStr Try.hX kn rfl rfl rfl rfl rfl rfl rfl rfl rfl rfl rfl (by first | exact rfl | exact byte1 _) rfl ?_ | refine AOps.buildArr Try.hX kn rfl rfl rfl rfl rfl rfl rfl rfl ?_ | refine AOps.indexArr Try.hX kn rfl rfl rfl rfl rfl rfl rfl rfl rfl rfl rfl rfl ?_ | refine AOps.runP1 Try.hX kn rfl rfl ?_ | (refine AOps.splitT rfl rfl rfl asm (fun h => ?_) <;> (fail_if_success (cases h; done)) <;> rw [h]) | (refine AOps.splitF rfl rfl rfl asm (fun h => ?_) <;> (fail_if_success (cases h; done)) <;> rw [h]) | (refine AOps.split rfl rfl rfl (fun h => ?_) (fun h => ?_) <;> (fail_if_success (cases h; done)) <;> rw [h]) | refine AOps.drawn (by kernel_rfl) ?_)
      refine AK.ren [(3000, 133)] [] (env' := [(4, .c (.int .i64 (((done ++ [(Nd.mk 2 nn p s args, d)]).length : Nat) : Int))), (3, .bsl 3000 0 6 ((done ++ [(Nd.mk 2 nn p s args, d)]) ++ (kidsAt args (d + 1) ++ todo)).length)])
        (bs' := [(3000, rowCells (encDeeps ((done ++ [(Nd.mk 2 nn p s args, d)]) ++ (kidsAt args (d + 1) ++ todo))))]) (ts' := []) (us' := [3000])
        ⟨⟨_, rfl, .inl (congrArg (fun q => AV.c (CV.int .i64 q)) (show IntKind.i64.wrap (((done.length : Nat) : Int) + 1) = (((done ++ [(Nd.mk 2 nn p s args, d)]).length : Nat) : Int) from by rw [hwi]; simp))⟩, ⟨_, rfl, ⟨_, rfl, rfl⟩⟩, trivial⟩ ⟨⟨_, rowCells _, rfl, rfl, convL_c _ _ _⟩, trivial⟩ rfl ?_
      refine ih (done ++ [(Nd.mk 2 nn p s args, d)], kidsAt args (d + 1) ++ todo) ⟨?_, ?_, ?_⟩ ?_
      · rw [hW]; exact wl_step hw1
      · rw [hC, cnt_step]; simp; omega
      · intro x hx
        rcases List.mem_append.1 hx with hx | hx
        · obtain ⟨y, hy, rfl⟩ := List.mem_map.1 hx
          have := ndsSize_mem hy
          exact ⟨ndsWf_mem hxw.2.2.2 hy, by show ndSize y ≤ 1048577; omega, by show 1 ≤ d + 1; omega, by show d + 1 ≤ 25; omega⟩
        · exact hall x (List.mem_cons_of_mem _ hx)
      · show cnt (kidsAt args (d + 1) ++ todo) < cnt ((Nd.mk 2 nn p s args, d) :: todo)
        rw [cnt_step]; omega
  · skip
    repeat' (first | refine AK.runP Try.hX Try.mixed 300 rfl ?_ | refine AK.condTe rfl asm ?_ | refine AK.condFe rfl asm ?_ | (refine AK.condS rfl (fun h => ?_) (fun h => ?_) <;> first | (cases h; done) | rw [h] | skip) | refine AK.retQ Try.hX hf rfl rfl ?_ | refine AK.region Try.mixed rfl ?_ | refine AOps.done ?_ | refine AOps.runS Try.hX kn rfl ?_ | refine AOps.indexB Try.hX kn rfl rfl rfl rfl rfl rfl rfl rfl rfl done.length rfl hlt ?_ | refine AOps.loadB Try.hX kn rfl rfl rfl rfl rfl rfl hat rfl ?_ | refine AOps.callq kn rfl rfl rfl rfl (isPrim_calls p) ?_ | refine AOps.callq kn rfl rfl rfl rfl (hIn) ?_ | refine AOps.sliceB Try.hX kn rfl rfl rfl rfl rfl rfl rfl rfl (l := some (done.length + 1)) (h := none) (bound_of rfl (done.length + 1) hwi) rfl (Nat.le_refl _) hle1 ?_ | refine AOps.appendF Try.hX kn rfl rfl rfl rfl rfl rfl rfl rfl rfl rfl rfl rfl rfl rfl (encDeeps todo) [] rfl hdrop hsub (deeps_shape todo) (by rw [deeps_flat, ← deeps_len, ← hsub]; rfl) (deeps_cells todo) rfl rfl (show ((done ++ (Nd.mk 3 nn p s args, d) :: todo).length - (done.length + 1)) * 72 ≤ 140737488355328 by omega) ?_ | refine AOps.sliceB Try.hX kn rfl rfl rfl rfl rfl rfl rfl rfl (l := none) (h := some (done.length + 1)) rfl (bound_of rfl (done.length + 1) hwi) hle1 (Nat.zero_le _) ?_ | refine AOps.box kn rfl rfl rfl rfl rfl rfl ?_ | refine AOps.alloc Try.hX kn rfl rfl rfl rfl rfl rfl rfl ?_ | refine AOps.store Try.hX kn rfl rfl rfl rfl rfl rfl rfl rfl rfl rfl rfl ?_ | refine AOps.buildSlice Try.hX kn rfl rfl rfl rfl rfl rfl rfl rfl rfl rfl rfl rfl ?_ | refine AOps.append Try.hX kn rfl rfl rfl rfl rfl rfl rfl rfl rfl rfl rfl rfl rfl rfl rfl rfl rfl rfl rfl rfl rfl ?_ ?_ | refine AOps.toStr Try.hX kn rfl rfl rfl rfl rfl rfl rfl rfl rfl rfl rfl (by first | exact rfl | exact byte1 _) rfl ?_ | refine AOps.buildArr Try.hX kn rfl rfl rfl rfl rfl rfl rfl rfl ?_ | refine AOps.indexArr Try.hX kn rfl rfl rfl rfl rfl rfl rfl rfl rfl rfl rfl rfl ?_ | refine AOps.runP1 Try.hX kn rfl rfl ?_ | (refine AOps.splitT rfl rfl rfl asm (fun h => ?_) <;> (fail_if_success (cases h; done)) <;> rw [h]) | (refine AOps.splitF rfl rfl rfl asm (fun h => ?_) <;> (fail_if_success (cases h; done)) <;> rw [h]) | (refine AOps.split rfl rfl rfl (fun h => ?_) (fun h => ?_) <;> (fail_if_success (cases h; done)) <;> rw [h]) | refine AOps.drawn (by kernel_rfl) ?_)
    all_goals first
      | (show (_ : CV) = _
         clear hf ih hIn hat hdrop hsub hall
         refine congrArg (CV.int .i64) ?_
         symm
         refine hbad _ (by omega) ?_
         clear hbad
         try simp only [encNds_length] at *
         unfold wrong1 maxI
         simp_all [nIn, List.length_pos_iff] <;> (repeat' split) <;> omega)
      | skip
    have hw1 : wrong1 (3) nn p s args.length d = 0 := by
      clear hf hIn ih hat hdrop hsub hall hbad
      try simp only [encNds_length] at *
      unfold wrong1 maxI
      simp_all [nIn, List.length_pos_iff] <;> (repeat' split) <;> omega
    refine AK.ren [(5, 5), (3000, 3000)] [] (env' := [(118, .c (.int .i64 (0 : Nat))), (117, .c (.int .i64 (encNds args).length)), (116, .c (.sl 5 (encNds args))), (6, .c (.sl 6 (encDeeps todo))), (4, .c (.int .i64 (done.length : Nat))), (5, .ptr 5 0), (3, .bsl 3000 0 6 (done.length + 1))])
      (bs' := [(5, [.c (.int .i64 3), .c (.int .i64 nn), .c (.int .i64 p), .c (.str s), .c (.sl 5 (encNds args)), .c (.int .i64 d)]), (3000, rowCells (encDeeps (done ++ (Nd.mk 3 nn p s args, d) :: todo)))]) (ts' := []) (us' := [5, 3000])
      ⟨⟨_, rfl, .inl rfl⟩, ⟨_, rfl, .inl rfl⟩, ⟨_, rfl, .inl rfl⟩, ⟨_, rfl, .inl rfl⟩, ⟨_, rfl, .inl rfl⟩, ⟨_, rfl, ⟨_, rfl, rfl⟩⟩, ⟨_, rfl, ⟨_, rfl, rfl⟩⟩, trivial⟩ ⟨⟨_, _, rfl, rfl, ⟨_, _, rfl, .inl rfl, ⟨_, _, rfl, .inl rfl, ⟨_, _, rfl, .inl rfl, ⟨_, _, rfl, .inl rfl, ⟨_, _, rfl, .inl rfl, ⟨_, _, rfl, .inl rfl, rfl⟩⟩⟩⟩⟩⟩⟩, ⟨_, rowCells _, rfl, rfl, convL_c _ _ _⟩, trivial⟩ rfl ?_
    refine AK.loopE (α := Nat × List AV) (fun z => z.1 ≤ args.length) (fun z => args.length - z.1)
      (fun z => [(118, .c (.int .i64 z.1)), (117, .c (.int .i64 (encNds args).length)), (116, .c (.sl 5 (encNds args))), (6, .c (.sl 6 (encDeeps todo))), (4, .c (.int .i64 (done.length : Nat))), (5, .ptr 5 0), (3, .bsl 3000 0 6 ((done ++ (Nd.mk 3 nn p s args, d) :: kidsAt (args.take z.1) (d + 1))).length)])
      (fun z => [(5, [.c (.int .i64 3), .c (.int .i64 nn), .c (.int .i64 p), .c (.str s), .c (.sl 5 (encNds args)), .c (.int .i64 d)]), (3000, rowCells (encDeeps ((done ++ (Nd.mk 3 nn p s args, d) :: kidsAt (args.take z.1) (d + 1)))) ++ z.2)]) (fun _ => []) [5, 3000] (0, rowCells (encDeeps todo))
      (Nat.zero_le _) ⟨.inl rfl, .inl rfl, .inl rfl, .inl rfl, .inl rfl, .inl rfl, .inl (congrArg (fun q => some (AV.bsl 3000 0 6 q)) (show done.length + 1 = ((done ++ (Nd.mk 3 nn p s args, d) :: kidsAt (args.take 0) (d + 1))).length from by simp [kidsAt])), trivial⟩ ⟨rfl, congrArg some (show rowCells (encDeeps (done ++ (Nd.mk 3 nn p s args, d) :: todo)) = rowCells (encDeeps ((done ++ (Nd.mk 3 nn p s args, d) :: kidsAt (args.take 0) (d + 1)))) ++ rowCells (encDeeps todo) from by rw [← rowCells_append, ← deeps_append]; simp [kidsAt]), trivial⟩ trivial rfl (okB_cons rfl rfl (okB_cons rfl (okAL_rows2 _ _ _) rfl)) rfl ?_
    rintro ⟨j, tail⟩ hj jh
    simp only at hj
    have hfl : ((done ++ (Nd.mk 3 nn p s args, d) :: kidsAt (args.take j) (d + 1))).length = done.length + 1 + j := by simp [kidsAt, List.length_take]; omega
    rcases get_or args j hj with ⟨y, hy, hm⟩ | he
    · have hcj := nds_lt hy
      have hjl := lt_of_get hy
      have hnext : (done ++ (Nd.mk 3 nn p s args, d) :: kidsAt (args.take (j + 1)) (d + 1)) = (done ++ (Nd.mk 3 nn p s args, d) :: kidsAt (args.take j) (d + 1)) ++ [(y, d + 1)] := by
        have : args.take (j + 1) = args.take j ++ [y] := by rw [List.take_add_one, hy]; rfl
        rw [this]; simp [kidsAt]
      have hdw : IntKind.i64.wrap (d + 1) = d + 1 := w64 (by omega) (by omega)
      obtain ⟨y1, y2, y3, y4, y5⟩ := y
      have hcs : encDeeps ((done ++ (Nd.mk 3 nn p s args, d) :: kidsAt (args.take j) (d + 1))) ++ [CV.agg [.int .i64 y1, .int .i64 y2, .int .i64 y3, .str y4, .sl 5 (encNds y5), .int .i64 (IntKind.i64.wrap (d + 1))]] = encDeeps ((done ++ (Nd.mk 3 nn p s args, d) :: kidsAt (args.take (j + 1)) (d + 1))) := by
        rw [hdw, hnext]; exact deeps_snoc _ (Nd.mk y1 y2 y3 y4 y5, d + 1)
      repeat' (first | refine AK.runP Try.hX Try.mixed 300 rfl ?_ | refine AK.condTe rfl asm ?_ | refine AK.condFe rfl asm ?_ | (refine AK.condS rfl (fun h => ?_) (fun h => ?_) <;> first | (cases h; done) | rw [h] | skip) | refine AK.retQ Try.hX hf rfl rfl ?_ | refine AK.region Try.mixed rfl ?_ | refine AOps.done ?_ | refine AOps.runS Try.hX kn rfl ?_ | refine AOps.index Try.hX rfl rfl rfl rfl rfl rfl rfl rfl rfl rfl (j) rfl (nds_at hy) rfl ?_ | refine AOps.appendB Try.hX kn rfl rfl rfl rfl rfl rfl rfl rfl rfl rfl rfl rfl rfl rfl rfl (encDeeps ((done ++ (Nd.mk 3 nn p s args, d) :: kidsAt (args.take j) (d + 1)))) tail rfl (deeps_len _).symm (deeps_flat _) rfl rfl rfl rfl rfl rfl rfl (show ((encDeeps ((done ++ (Nd.mk 3 nn p s args, d) :: kidsAt (args.take j) (d + 1)))).length + 1) * 72 ≤ 140737488355328 by rw [deeps_len, hfl]; omega) hcs (deeps_len ((done ++ (Nd.mk 3 nn p s args, d) :: kidsAt (args.take (j + 1)) (d + 1)))) rfl ?_ | refine AOps.box kn rfl rfl rfl rfl rfl rfl ?_ | refine AOps.alloc Try.hX kn rfl rfl rfl rfl rfl rfl rfl ?_ | refine AOps.store Try.hX kn rfl rfl rfl rfl rfl rfl rfl rfl rfl rfl rfl ?_ | refine AOps.buildSlice Try.hX kn rfl rfl rfl rfl rfl rfl rfl rfl rfl rfl rfl rfl ?_ | refine AOps.append Try.hX kn rfl rfl rfl rfl rfl rfl rfl rfl rfl rfl rfl rfl rfl rfl rfl rfl rfl rfl rfl rfl rfl ?_ ?_ | refine AOps.toStr Try.hX kn rfl rfl rfl rfl rfl rfl rfl rfl rfl rfl rfl (by first | exact rfl | exact byte1 _) rfl ?_ | refine AOps.buildArr Try.hX kn rfl rfl rfl rfl rfl rfl rfl rfl ?_ | refine AOps.indexArr Try.hX kn rfl rfl rfl rfl rfl rfl rfl rfl rfl rfl rfl rfl ?_ | refine AOps.runP1 Try.hX kn rfl rfl ?_ | (refine AOps.splitT rfl rfl rfl asm (fun h => ?_) <;> (fail_if_success (cases h; done)) <;> rw [h]) | (refine AOps.splitF rfl rfl rfl asm (fun h => ?_) <;> (fail_if_success (cases h; done)) <;> rw [h]) | (refine AOps.split rfl rfl rfl (fun h => ?_) (fun h => ?_) <;> (fail_if_success (cases h; done)) <;> rw [h]) | refine AOps.drawn (by kernel_rfl) ?_)
      refine AK.ren [(5, 5), (3000, 129)] [] (env' := [(118, .c (.int .i64 ((j + 1 : Nat) : Int))), (117, .c (.int .i64 (encNds args).length)), (116, .c (.sl 5 (encNds args))), (6, .c (.sl 6 (encDeeps todo))), (4, .c (.int .i64 (done.length : Nat))), (5, .ptr 5 0), (3, .bsl 3000 0 6 ((done ++ (Nd.mk 3 nn p s args, d) :: kidsAt (args.take (j + 1)) (d + 1))).length)])
        (bs' := [(5, [.c (.int .i64 3), .c (.int .i64 nn), .c (.int .i64 p), .c (.str s), .c (.sl 5 (encNds args)), .c (.int .i64 d)]), (3000, rowCells (encDeeps ((done ++ (Nd.mk 3 nn p s args, d) :: kidsAt (args.take (j + 1)) (d + 1)))) ++ [])]) (ts' := []) (us' := [5, 3000])
        ⟨⟨_, rfl, .inl (succ64' (i := j) (by omega))⟩, ⟨_, rfl, .inl rfl⟩, ⟨_, rfl, .inl rfl⟩, ⟨_, rfl, .inl rfl⟩, ⟨_, rfl, .inl rfl⟩, ⟨_, rfl, ⟨_, rfl, rfl⟩⟩, ⟨_, rfl, ⟨_, rfl, rfl⟩⟩, trivial⟩ ⟨⟨_, _, rfl, rfl, ⟨_, _, rfl, .inl rfl, ⟨_, _, rfl, .inl rfl, ⟨_, _, rfl, .inl rfl, ⟨_, _, rfl, .inl rfl, ⟨_, _, rfl, .inl rfl, ⟨_, _, rfl, .inl rfl, rfl⟩⟩⟩⟩⟩⟩⟩, ⟨_, _, rfl, rfl, convL_nil _⟩, trivial⟩ rfl ?_
      exact jh (j + 1, []) hjl (by show args.length - (j + 1) < args.length - j; omega)
    · have hcj := nds_end he
      have hfe : (done ++ (Nd.mk 3 nn p s args, d) :: kidsAt (args.take j) (d + 1)) = done ++ (Nd.mk 3 nn p s args, d) :: kidsAt args (d + 1) := by rw [he, List.take_length]
      clear jh
      have hcs : encDeeps ((done ++ (Nd.mk 3 nn p s args, d) :: kidsAt (args.take j) (d + 1))) ++ encDeeps todo = encDeeps ((done ++ [(Nd.mk 3 nn p s args, d)]) ++ (kidsAt args (d + 1) ++ todo)) := by
        rw [← deeps_append, hfe]; simp
      have htot : ((done ++ (Nd.mk 3 nn p s args, d) :: kidsAt (args.take j) (d + 1))).length + todo.length ≤ 3000000 := by rw [hfl]; omega
      repeat' (first | refine AK.runP Try.hX Try.mixed 300 rfl ?_ | refine AK.condTe rfl asm ?_ | refine AK.condFe rfl asm ?_ | (refine AK.condS rfl (fun h => ?_) (fun h => ?_) <;> first | (cases h; done) | rw [h] | skip) | refine AK.retQ Try.hX hf rfl rfl ?_ | refine AK.region Try.mixed rfl ?_ | refine AOps.done ?_ | refine AOps.runS Try.hX kn rfl ?_ | refine AOps.appendB Try.hX kn rfl rfl rfl rfl rfl rfl rfl rfl rfl rfl rfl rfl rfl rfl rfl (encDeeps ((done ++ (Nd.mk 3 nn p s args, d) :: kidsAt (args.take j) (d + 1)))) tail rfl (deeps_len _).symm (deeps_flat _) rfl rfl rfl rfl rfl rfl rfl (show ((encDeeps ((done ++ (Nd.mk 3 nn p s args, d) :: kidsAt (args.take j) (d + 1)))).length + (encDeeps todo).length) * 72 ≤ 140737488355328 by rw [deeps_len, deeps_len]; omega) hcs (deeps_len _) rfl ?_ | refine AOps.box kn rfl rfl rfl rfl rfl rfl ?_ | refine AOps.alloc Try.hX kn rfl rfl rfl rfl rfl rfl rfl ?_ | refine AOps.store Try.hX kn rfl rfl rfl rfl rfl rfl rfl rfl rfl rfl rfl ?_ | refine AOps.buildSlice Try.hX kn rfl rfl rfl rfl rfl rfl rfl rfl rfl rfl rfl rfl ?_ | refine AOps.append Try.hX kn rfl rfl rfl rfl rfl rfl rfl rfl rfl rfl rfl rfl rfl rfl rfl rfl rfl rfl rfl rfl rfl ?_ ?_ | refine AOps.toStr Try.hX kn rfl rfl rfl rfl rfl rfl rfl rfl rfl rfl rfl (by first | exact rfl | exact byte1 _) rfl ?_ | refine AOps.buildArr Try.hX kn rfl rfl rfl rfl rfl rfl rfl rfl ?_ | refine AOps.indexArr Try.hX kn rfl rfl rfl rfl rfl rfl rfl rfl rfl rfl rfl rfl ?_ | refine AOps.runP1 Try.hX kn rfl rfl ?_ | (refine AOps.splitT rfl rfl rfl asm (fun h => ?_) <;> (fail_if_success (cases h; done)) <;> rw [h]) | (refine AOps.splitF rfl rfl rfl asm (fun h => ?_) <;> (fail_if_success (cases h; done)) <;> rw [h]) | (refine AOps.split rfl rfl rfl (fun h => ?_) (fun h => ?_) <;> (fail_if_success (cases h; done)) <;> rw [h]) | refine AOps.drawn (by kernel_rfl) ?_)
      refine AK.ren [(3000, 133)] [] (env' := [(4, .c (.int .i64 (((done ++ [(Nd.mk 3 nn p s args, d)]).length : Nat) : Int))), (3, .bsl 3000 0 6 ((done ++ [(Nd.mk 3 nn p s args, d)]) ++ (kidsAt args (d + 1) ++ todo)).length)])
        (bs' := [(3000, rowCells (encDeeps ((done ++ [(Nd.mk 3 nn p s args, d)]) ++ (kidsAt args (d + 1) ++ todo))))]) (ts' := []) (us' := [3000])
        ⟨⟨_, rfl, .inl (congrArg (fun q => AV.c (CV.int .i64 q)) (show IntKind.i64.wrap (((done.length : Nat) : Int) + 1) = (((done ++ [(Nd.mk 3 nn p s args, d)]).length : Nat) : Int) from by rw [hwi]; simp))⟩, ⟨_, rfl, ⟨_, rfl, rfl⟩⟩, trivial⟩ ⟨⟨_, rowCells _, rfl, rfl, convL_c _ _ _⟩, trivial⟩ rfl ?_
      refine ih (done ++ [(Nd.mk 3 nn p s args, d)], kidsAt args (d + 1) ++ todo) ⟨?_, ?_, ?_⟩ ?_
      · rw [hW]; exact wl_step hw1
      · rw [hC, cnt_step]; simp; omega
      · intro x hx
        rcases List.mem_append.1 hx with hx | hx
        · obtain ⟨y, hy, rfl⟩ := List.mem_map.1 hx
          have := ndsSize_mem hy
          exact ⟨ndsWf_mem hxw.2.2.2 hy, by show ndSize y ≤ 1048577; omega, by show 1 ≤ d + 1; omega, by show d + 1 ≤ 25; omega⟩
        · exact hall x (List.mem_cons_of_mem _ hx)
      · show cnt (kidsAt args (d + 1) ++ todo) < cnt ((Nd.mk 3 nn p s args, d) :: todo)
        rw [cnt_step]; omega
end Go.Proofs
