/- What add and Encode of package tree answer, and whether tree answers at all. -/
-- WIDE
-- OLDASM
import Derived.Test.YtcinhjfonmjneaaTree3
set_option linter.unusedVariables false
set_option linter.unusedSimpArgs false
namespace Go.Proofs
open Go.Abs

theorem wrongs_at {l : List Nd} {d : Int} (h : wrongs l d = 0) : ∀ x ∈ l, wrong x d = 0 := by
  induction l with
  | nil => intro x hx; simp at hx
  | cons y l ih =>
    intro x hx
    simp only [wrongs] at h
    by_cases hy : wrong y d = 0
    · rw [if_pos hy] at h
      rcases List.mem_cons.1 hx with rfl | hx
      · exact hy
      · exact ih h x hx
    · rw [if_neg hy] at h; exact absurd h hy
mutual
theorem bytesN_len : ∀ (t : Nd) (d : Int), wrong t d = 0 → ndSize t ≤ 1048577 → (bytesN t).length ≤ 12 * ndSize t
  | .mk kind n p s args, d, h, hs => by
    obtain ⟨h1, h2⟩ := wrong_eq h
    obtain ⟨_, _, _, _, _, _, hn1, hn2, hs2⟩ := wrong1_eq h1
    simp only [ndSize] at hs
    have hl1 := ndsSize_len args
    have ih := bytesNs_len args (d + 1) h2 (by omega)
    have b1 := numB_len hn1 hn2
    have b2 := numB_len (n := (s.length : Int)) (by unfold maxI; omega) (by unfold maxI; omega)
    have b3 := numB_len (n := (args.length : Int)) (by unfold maxI; omega) (by unfold maxI; omega)
    simp only [bytesN, ndSize]
    split
    · simp only [List.length_cons]; omega
    · split
      · simp only [List.length_cons, List.length_append]; omega
      · split
        · simp only [List.length_cons, List.length_append]; omega
        · simp only [List.length_cons, List.length_append]; omega
theorem bytesNs_len : ∀ (l : List Nd) (d : Int), wrongs l d = 0 → ndsSize l ≤ 1048577 → (bytesNs l).length ≤ 12 * ndsSize l
  | [], d, _, _ => by simp [bytesNs]
  | t :: l, d, h, hs => by
    simp only [ndsSize] at hs
    have h1 := wrongs_at h
    have ih1 := bytesN_len t d (h1 t (by simp)) (by omega)
    have h2 : wrongs l d = 0 := by simp only [wrongs] at h; rw [if_pos (h1 t (by simp))] at h; exact h
    have ih2 := bytesNs_len l d h2 (by omega)
    simp only [bytesNs, ndsSize, List.length_append]; omega
end
theorem bytesNs_nil : bytesNs [] = [] := rfl
theorem bytesNs_cons (x : Nd) (l : List Nd) : bytesNs (x :: l) = bytesN x ++ bytesNs l := rfl
theorem bytes0 (n p : Int) (s : List UInt8) (args : List Nd) : bytesN (.mk 0 n p s args) = Go.Abs.byteOf 0 :: numB n := by simp [bytesN]
theorem bytes1 (n p : Int) (s : List UInt8) (args : List Nd) : bytesN (.mk 1 n p s args) = Go.Abs.byteOf 1 :: (numB (s.length : Int) ++ s) := by simp [bytesN]
theorem bytes2 (n p : Int) (s : List UInt8) (args : List Nd) : bytesN (.mk 2 n p s args) = Go.Abs.byteOf 2 :: Go.Abs.byteOf p :: (numB (args.length : Int) ++ bytesNs args) := by simp [bytesN]
theorem bytes3 (n p : Int) (s : List UInt8) (args : List Nd) : bytesN (.mk 3 n p s args) = Go.Abs.byteOf 3 :: (numB (args.length : Int) ++ bytesNs args) := by simp [bytesN]
theorem byteRows_app (a b : List UInt8) : byteRows (a ++ b) = byteRows a ++ byteRows b := by simp [byteRows]
theorem byteRows_cons (b : UInt8) (l : List UInt8) : byteRows (b :: l) = .int .u8 b.toNat :: byteRows l := rfl
attribute [local irreducible] AK AOps QCalls ECalls bytesN bytesNs numB wrong wrongs

set_option maxHeartbeats 0 in
theorem add_calls : ∀ (t : Nd) (rows : List CV) (d : Int), wrong t d = 0 → ndSize t ≤ 1048577 → rows.length + 12 * ndSize t ≤ 100000000 →
    ECalls Try.prog Try.X 89 [.v (.own 1 rows), .v (.c (encNd t))] [.own 1 (rows ++ byteRows (bytesN t))] []
  | .mk kind n p s args, rows, d, hw, ht, hr => by
    obtain ⟨h1, h2⟩ := wrong_eq hw
    obtain ⟨_, hk, _, _, _, _, hn1, hn2, hs2⟩ := wrong1_eq h1
    simp only [ndSize] at ht hr
    have hl1 := ndsSize_len args
    have hal := wrongs_at h2
    have hin : ∀ x ∈ args, ∀ rows : List CV, rows.length + 12 * ndSize x ≤ 100000000 → ECalls Try.prog Try.X 89 [.v (.own 1 rows), .v (.c (encNd x))] [.own 1 (rows ++ byteRows (bytesN x))] [] := fun x hx rows hr => add_calls x rows (d + 1) (hal x hx) (by have := ndsSize_mem hx; omega) hr
    have hbl := bytesNs_len args (d + 1) h2 (by omega)
    have b3 := numB_len (n := (args.length : Int)) (by unfold maxI; omega) (by unfold maxI; omega)
    have b2 := numB_len (n := (s.length : Int)) (by unfold maxI; omega) (by unfold maxI; omega)
    rcases hk with rfl | rfl | ⟨rfl, hp⟩ | rfl
    · rw [bytes0]
      have hput := put_calls (rows ++ [CV.int .u8 (IntKind.u8.wrap 0)]) n hn1 hn2 (by simp only [List.length_append, List.length_cons, List.length_nil]; omega)
      refine ECalls.ofL Try.func89 rfl (fun args w => Try.call89 args w) (Nat.le_of_ble_eq_true rfl) [(0, .own (.tok 1000000 0) 1 (rows)), (1, .c (encNd (.mk 0 n p s args)))] [] [(1000000, 0)] [1000000] rfl rfl fun β => ?_; have hf := Try.func89
      repeat' (first | refine AK.runP Try.hX Try.mixed 300 rfl ?_ | refine AK.condTe rfl asmo ?_ | refine AK.condFe rfl asmo ?_ | (refine AK.condS rfl (fun h => ?_) (fun h => ?_) <;> first | (cases h; done) | rw [h] | skip) | refine AK.retE Try.hX hf rfl rfl rfl rfl ?_ (by with_reducible rfl) | refine AK.retE Try.hX hf rfl rfl rfl rfl ?_ ?_ | refine AK.endE Try.hX hf rfl rfl rfl rfl ?_ (by with_reducible rfl) | refine AK.endE Try.hX hf rfl rfl rfl rfl ?_ ?_ | refine AK.region Try.mixed rfl ?_ | refine AOps.done ?_ | refine AOps.runS Try.hX kn rfl ?_ | refine AOps.calle kn rfl rfl (hput) rfl ⟨_, _, rfl, rfl, ⟨_, _, rfl, rfl, rfl⟩⟩ rfl rfl rfl rfl rfl rfl rfl rfl rfl rfl rfl rfl rfl rfl ?_ | refine AOps.box kn rfl rfl rfl rfl rfl rfl ?_ | refine AOps.alloc Try.hX kn rfl rfl rfl rfl rfl rfl rfl ?_ | refine AOps.store Try.hX kn rfl rfl rfl rfl rfl rfl rfl rfl rfl rfl rfl ?_ | refine AOps.buildSlice Try.hX kn rfl rfl rfl rfl rfl rfl rfl rfl rfl rfl rfl rfl ?_ | refine AOps.append Try.hX kn rfl rfl rfl rfl rfl rfl rfl rfl rfl rfl rfl rfl rfl rfl rfl rfl rfl rfl rfl rfl rfl ?_ ?_ | refine AOps.toStr Try.hX kn rfl rfl rfl rfl rfl rfl rfl rfl rfl rfl rfl (by first | exact rfl | exact byte1 _) rfl ?_ | refine AOps.buildArr Try.hX kn rfl rfl rfl rfl rfl rfl rfl rfl ?_ | refine AOps.indexArr Try.hX kn rfl rfl rfl rfl rfl rfl rfl rfl rfl rfl rfl rfl ?_ | refine AOps.runP1 Try.hX kn rfl rfl ?_ | (refine AOps.splitT rfl rfl rfl asmo (fun h => ?_) <;> (fail_if_success (cases h; done)) <;> rw [h]) | (refine AOps.splitF rfl rfl rfl asmo (fun h => ?_) <;> (fail_if_success (cases h; done)) <;> rw [h]) | (refine AOps.split rfl rfl rfl (fun h => ?_) (fun h => ?_) <;> (fail_if_success (cases h; done)) <;> rw [h]) | refine AOps.drawn (by kernel_rfl) ?_)
      · simp only [List.length_cons, List.length_nil]; omega
      · show (_ : List LV) = _
        rw [byteRows_cons]; simp; rfl
    · rw [bytes1]
      have hput := put_calls (rows ++ [CV.int .u8 (IntKind.u8.wrap 1)]) (s.length : Int) (by unfold maxI; omega) (by unfold maxI; omega) (by simp only [List.length_append, List.length_cons, List.length_nil]; omega)
      refine ECalls.ofL Try.func89 rfl (fun args w => Try.call89 args w) (Nat.le_of_ble_eq_true rfl) [(0, .own (.tok 1000000 0) 1 (rows)), (1, .c (encNd (.mk 1 n p s args)))] [] [(1000000, 0)] [1000000] rfl rfl fun β => ?_; have hf := Try.func89
      repeat' (first | refine AK.runP Try.hX Try.mixed 300 rfl ?_ | refine AK.condTe rfl asmo ?_ | refine AK.condFe rfl asmo ?_ | (refine AK.condS rfl (fun h => ?_) (fun h => ?_) <;> first | (cases h; done) | rw [h] | skip) | refine AK.retE Try.hX hf rfl rfl rfl rfl ?_ (by with_reducible rfl) | refine AK.retE Try.hX hf rfl rfl rfl rfl ?_ ?_ | refine AK.endE Try.hX hf rfl rfl rfl rfl ?_ (by with_reducible rfl) | refine AK.endE Try.hX hf rfl rfl rfl rfl ?_ ?_ | refine AK.region Try.mixed rfl ?_ | refine AOps.done ?_ | refine AOps.runS Try.hX kn rfl ?_ | refine AOps.calle kn rfl rfl (hput) rfl ⟨_, _, rfl, rfl, ⟨_, _, rfl, rfl, rfl⟩⟩ rfl rfl rfl rfl rfl rfl rfl rfl rfl rfl rfl rfl rfl rfl ?_ | refine AOps.box kn rfl rfl rfl rfl rfl rfl ?_ | refine AOps.alloc Try.hX kn rfl rfl rfl rfl rfl rfl rfl ?_ | refine AOps.store Try.hX kn rfl rfl rfl rfl rfl rfl rfl rfl rfl rfl rfl ?_ | refine AOps.buildSlice Try.hX kn rfl rfl rfl rfl rfl rfl rfl rfl rfl rfl rfl rfl ?_ | refine AOps.append Try.hX kn rfl rfl rfl rfl rfl rfl rfl rfl rfl rfl rfl rfl rfl rfl rfl rfl rfl rfl rfl rfl rfl ?_ ?_ | refine AOps.toStr Try.hX kn rfl rfl rfl rfl rfl rfl rfl rfl rfl rfl rfl (by first | exact rfl | exact byte1 _) rfl ?_ | refine AOps.buildArr Try.hX kn rfl rfl rfl rfl rfl rfl rfl rfl ?_ | refine AOps.indexArr Try.hX kn rfl rfl rfl rfl rfl rfl rfl rfl rfl rfl rfl rfl ?_ | refine AOps.runP1 Try.hX kn rfl rfl ?_ | (refine AOps.splitT rfl rfl rfl asmo (fun h => ?_) <;> (fail_if_success (cases h; done)) <;> rw [h]) | (refine AOps.splitF rfl rfl rfl asmo (fun h => ?_) <;> (fail_if_success (cases h; done)) <;> rw [h]) | (refine AOps.split rfl rfl rfl (fun h => ?_) (fun h => ?_) <;> (fail_if_success (cases h; done)) <;> rw [h]) | refine AOps.drawn (by kernel_rfl) ?_)
      · simp only [List.length_cons, List.length_nil]; omega
      · simp only [List.length_append, List.length_map, List.length_cons, List.length_nil]; omega
      · show (_ : List LV) = _
        rw [byteRows_cons, byteRows_app]; simp; rfl
    · rw [bytes2]
      have hput := put_calls (rows ++ [CV.int .u8 (IntKind.u8.wrap 2)] ++ [CV.int .u8 (IntKind.u8.wrap p)]) (((encNds args).length : Nat) : Int) (by rw [encNds_length]; unfold maxI; omega) (by rw [encNds_length]; unfold maxI; omega) (by simp only [List.length_append, List.length_cons, List.length_nil]; omega)
      refine ECalls.ofL Try.func89 rfl (fun args w => Try.call89 args w) (Nat.le_of_ble_eq_true rfl) [(0, .own (.tok 1000000 0) 1 (rows)), (1, .c (encNd (.mk 2 n p s args)))] [] [(1000000, 0)] [1000000] rfl rfl fun β => ?_; have hf := Try.func89
      repeat' (first | refine AK.runP Try.hX Try.mixed 300 rfl ?_ | refine AK.condTe rfl asmo ?_ | refine AK.condFe rfl asmo ?_ | (refine AK.condS rfl (fun h => ?_) (fun h => ?_) <;> first | (cases h; done) | rw [h] | skip) | refine AK.retE Try.hX hf rfl rfl rfl rfl ?_ (by with_reducible rfl) | refine AK.retE Try.hX hf rfl rfl rfl rfl ?_ ?_ | refine AK.endE Try.hX hf rfl rfl rfl rfl ?_ (by with_reducible rfl) | refine AK.endE Try.hX hf rfl rfl rfl rfl ?_ ?_ | refine AK.region Try.mixed rfl ?_ | refine AOps.done ?_ | refine AOps.runS Try.hX kn rfl ?_ | refine AOps.calle kn rfl rfl (hput) rfl ⟨_, _, rfl, rfl, ⟨_, _, rfl, rfl, rfl⟩⟩ rfl rfl rfl rfl rfl rfl rfl rfl rfl rfl rfl rfl rfl rfl ?_ | refine AOps.box kn rfl rfl rfl rfl rfl rfl ?_ | refine AOps.alloc Try.hX kn rfl rfl rfl rfl rfl rfl rfl ?_ | refine AOps.store Try.hX kn rfl rfl rfl rfl rfl rfl rfl rfl rfl rfl rfl ?_ | refine AOps.buildSlice Try.hX kn rfl rfl rfl rfl rfl rfl rfl rfl rfl rfl rfl rfl ?_ | refine AOps.append Try.hX kn rfl rfl rfl rfl rfl rfl rfl rfl rfl rfl rfl rfl rfl rfl rfl rfl rfl rfl rfl rfl rfl ?_ ?_ | refine AOps.toStr Try.hX kn rfl rfl rfl rfl rfl rfl rfl rfl rfl rfl rfl (by first | exact rfl | exact byte1 _) rfl ?_ | refine AOps.buildArr Try.hX kn rfl rfl rfl rfl rfl rfl rfl rfl ?_ | refine AOps.indexArr Try.hX kn rfl rfl rfl rfl rfl rfl rfl rfl rfl rfl rfl rfl ?_ | refine AOps.runP1 Try.hX kn rfl rfl ?_ | (refine AOps.splitT rfl rfl rfl asmo (fun h => ?_) <;> (fail_if_success (cases h; done)) <;> rw [h]) | (refine AOps.splitF rfl rfl rfl asmo (fun h => ?_) <;> (fail_if_success (cases h; done)) <;> rw [h]) | (refine AOps.split rfl rfl rfl (fun h => ?_) (fun h => ?_) <;> (fail_if_success (cases h; done)) <;> rw [h]) | refine AOps.drawn (by kernel_rfl) ?_)
      · simp only [List.length_cons, List.length_nil]; omega
      · simp only [List.length_append, List.length_cons, List.length_nil]; omega
      · have hpre : rows ++ [CV.int .u8 (IntKind.u8.wrap 2)] ++ [CV.int .u8 (IntKind.u8.wrap p)] ++ byteRows (numB (((encNds args).length : Nat) : Int)) = rows ++ byteRows ([Go.Abs.byteOf 2, Go.Abs.byteOf p] ++ numB (args.length : Int)) := by
          rw [encNds_length, byteRows_app, byteRows_cons, byteRows_cons, byteOf_val, byteOf_val]; simp
        refine AK.ren [(3, 3)] [(1000000, (0, some 445000000))] (env' := [(47, .c (.int .i64 (0 : Nat))), (46, .c (.int .i64 (encNds args).length)), (45, .c (.sl 5 (encNds args))), (0, .own (.tok 1000000 0) 1 (rows ++ byteRows ([Go.Abs.byteOf 2, Go.Abs.byteOf p] ++ numB (args.length : Int)))), (3, .ptr 3 0)])
          (bs' := [(3, [.c (.int .i64 2), .c (.int .i64 n), .c (.int .i64 p), .c (.str s), .c (.sl 5 (encNds args))])]) (ts' := [(1000000, 0)]) (us' := [3, 1000000])
          ⟨⟨_, rfl, .inl rfl⟩, ⟨_, rfl, .inl rfl⟩, ⟨_, rfl, .inl rfl⟩, ⟨_, rfl, ⟨_, rfl, .inr ⟨_, _, rfl, rfl, congrArg (AV.own (.tok 445000000 0) 1) hpre⟩⟩⟩, ⟨_, rfl, ⟨_, rfl, rfl⟩⟩, trivial⟩ ⟨⟨_, _, rfl, rfl, ⟨_, _, rfl, .inl rfl, ⟨_, _, rfl, .inl rfl, ⟨_, _, rfl, .inl rfl, ⟨_, _, rfl, .inl rfl, ⟨_, _, rfl, .inl rfl, rfl⟩⟩⟩⟩⟩⟩, trivial⟩ rfl ?_
        refine AK.loopE (α := Nat × List UInt8) (fun z => z.1 ≤ args.length ∧ [Go.Abs.byteOf 2, Go.Abs.byteOf p] ++ numB (args.length : Int) ++ bytesNs args = z.2 ++ bytesNs (args.drop z.1) ∧ (rows.length + z.2.length) + 12 * ndsSize (args.drop z.1) ≤ 100000000) (fun z => args.length - z.1)
          (fun z => [(47, .c (.int .i64 z.1)), (46, .c (.int .i64 (encNds args).length)), (45, .c (.sl 5 (encNds args))), (0, .own (.tok 1000000 0) 1 (rows ++ byteRows z.2)), (3, .ptr 3 0)])
          (fun z => [(3, [.c (.int .i64 2), .c (.int .i64 n), .c (.int .i64 p), .c (.str s), .c (.sl 5 (encNds args))])]) (fun _ => [(1000000, 0)]) [3, 1000000] (0, [Go.Abs.byteOf 2, Go.Abs.byteOf p] ++ numB (args.length : Int))
          ⟨by omega, by simp, by simp only [List.length_append, List.length_cons, List.length_nil, List.drop_zero]; omega⟩ ⟨.inl rfl, .inl rfl, .inl rfl, .inl rfl, .inl rfl, trivial⟩ ⟨rfl, trivial⟩ ⟨rfl, trivial⟩ rfl rfl rfl ?_
        rintro ⟨i, acc⟩ ⟨hi, hinv, hsz⟩ ih
        simp only at hi hinv hsz
        rcases get_or args i hi with ⟨x, hx, hm⟩ | he
        · have hc := nds_lt hx
          have hlt := lt_of_get hx
          rw [drop_at hx] at hsz hinv
          rw [bytesNs_cons] at hinv
          simp only [ndsSize] at hsz
          have hq := hin x hm (rows ++ byteRows acc) (by simp only [List.length_append, List.length_map]; omega)
          have hxl := bytesN_len x (d + 1) (hal x hm) (by have := ndsSize_mem hm; omega)
          have hap : rows ++ byteRows acc ++ byteRows (bytesN x) = rows ++ byteRows (acc ++ bytesN x) := by rw [byteRows_app, List.append_assoc]
          generalize bytesN x = bx at hq hxl hap hinv
          obtain ⟨x1, x2, x3, x4, x5⟩ := x
          repeat' (first | refine AK.runP Try.hX Try.mixed 300 rfl ?_ | refine AK.condTe rfl asmo ?_ | refine AK.condFe rfl asmo ?_ | (refine AK.condS rfl (fun h => ?_) (fun h => ?_) <;> first | (cases h; done) | rw [h] | skip) | refine AK.retE Try.hX hf rfl rfl rfl rfl ?_ (by with_reducible rfl) | refine AK.retE Try.hX hf rfl rfl rfl rfl ?_ ?_ | refine AK.endE Try.hX hf rfl rfl rfl rfl ?_ (by with_reducible rfl) | refine AK.endE Try.hX hf rfl rfl rfl rfl ?_ ?_ | refine AK.region Try.mixed rfl ?_ | refine AOps.done ?_ | refine AOps.runS Try.hX kn rfl ?_ | refine AOps.index Try.hX rfl rfl rfl rfl rfl rfl rfl rfl rfl rfl (i) rfl (nds_at hx) rfl ?_ | refine AOps.calle kn rfl rfl (hq) rfl ⟨_, _, rfl, rfl, ⟨_, _, rfl, rfl, rfl⟩⟩ rfl rfl rfl rfl rfl rfl rfl rfl rfl rfl rfl rfl rfl rfl ?_ | refine AOps.box kn rfl rfl rfl rfl rfl rfl ?_ | refine AOps.alloc Try.hX kn rfl rfl rfl rfl rfl rfl rfl ?_ | refine AOps.store Try.hX kn rfl rfl rfl rfl rfl rfl rfl rfl rfl rfl rfl ?_ | refine AOps.buildSlice Try.hX kn rfl rfl rfl rfl rfl rfl rfl rfl rfl rfl rfl rfl ?_ | refine AOps.append Try.hX kn rfl rfl rfl rfl rfl rfl rfl rfl rfl rfl rfl rfl rfl rfl rfl rfl rfl rfl rfl rfl rfl ?_ ?_ | refine AOps.toStr Try.hX kn rfl rfl rfl rfl rfl rfl rfl rfl rfl rfl rfl (by first | exact rfl | exact byte1 _) rfl ?_ | refine AOps.buildArr Try.hX kn rfl rfl rfl rfl rfl rfl rfl rfl ?_ | refine AOps.indexArr Try.hX kn rfl rfl rfl rfl rfl rfl rfl rfl rfl rfl rfl rfl ?_ | refine AOps.runP1 Try.hX kn rfl rfl ?_ | (refine AOps.splitT rfl rfl rfl asmo (fun h => ?_) <;> (fail_if_success (cases h; done)) <;> rw [h]) | (refine AOps.splitF rfl rfl rfl asmo (fun h => ?_) <;> (fail_if_success (cases h; done)) <;> rw [h]) | (refine AOps.split rfl rfl rfl (fun h => ?_) (fun h => ?_) <;> (fail_if_success (cases h; done)) <;> rw [h]) | refine AOps.drawn (by kernel_rfl) ?_)
          refine AK.ren [(3, 3)] [(1000000, (0, some 545000000))] (env' := [(47, .c (.int .i64 ((i + 1 : Nat) : Int))), (46, .c (.int .i64 (encNds args).length)), (45, .c (.sl 5 (encNds args))), (0, .own (.tok 1000000 0) 1 (rows ++ byteRows (acc ++ bx))), (3, .ptr 3 0)])
            (bs' := [(3, [.c (.int .i64 2), .c (.int .i64 n), .c (.int .i64 p), .c (.str s), .c (.sl 5 (encNds args))])]) (ts' := [(1000000, 0)]) (us' := [3, 1000000])
            ⟨⟨_, rfl, .inl (succ64' (i := i) (by omega))⟩, ⟨_, rfl, .inl rfl⟩, ⟨_, rfl, .inl rfl⟩, ⟨_, rfl, ⟨_, rfl, .inr ⟨_, _, rfl, rfl, congrArg (AV.own (.tok 545000000 0) 1) hap⟩⟩⟩, ⟨_, rfl, ⟨_, rfl, rfl⟩⟩, trivial⟩ ⟨⟨_, _, rfl, rfl, ⟨_, _, rfl, .inl rfl, ⟨_, _, rfl, .inl rfl, ⟨_, _, rfl, .inl rfl, ⟨_, _, rfl, .inl rfl, ⟨_, _, rfl, .inl rfl, rfl⟩⟩⟩⟩⟩⟩, trivial⟩ rfl ?_
          refine ih (i + 1, acc ++ bx) ⟨hlt, by show [Go.Abs.byteOf 2, Go.Abs.byteOf p] ++ numB (args.length : Int) ++ bytesNs args = _; rw [hinv]; simp, by simp only [List.length_append]; omega⟩ (by show args.length - (i + 1) < args.length - i; omega)
        · have hc := nds_end he
          rw [he, List.drop_length, bytesNs_nil, List.append_nil] at hinv
          clear ih hin
          repeat' (first | refine AK.runP Try.hX Try.mixed 300 rfl ?_ | refine AK.condTe rfl asmo ?_ | refine AK.condFe rfl asmo ?_ | (refine AK.condS rfl (fun h => ?_) (fun h => ?_) <;> first | (cases h; done) | rw [h] | skip) | refine AK.retE Try.hX hf rfl rfl rfl rfl ?_ (by with_reducible rfl) | refine AK.retE Try.hX hf rfl rfl rfl rfl ?_ ?_ | refine AK.endE Try.hX hf rfl rfl rfl rfl ?_ (by with_reducible rfl) | refine AK.endE Try.hX hf rfl rfl rfl rfl ?_ ?_ | refine AK.region Try.mixed rfl ?_ | refine AOps.done ?_ | refine AOps.runS Try.hX kn rfl ?_ | refine AOps.box kn rfl rfl rfl rfl rfl rfl ?_ | refine AOps.alloc Try.hX kn rfl rfl rfl rfl rfl rfl rfl ?_ | refine AOps.store Try.hX kn rfl rfl rfl rfl rfl rfl rfl rfl rfl rfl rfl ?_ | refine AOps.buildSlice Try.hX kn rfl rfl rfl rfl rfl rfl rfl rfl rfl rfl rfl rfl ?_ | refine AOps.append Try.hX kn rfl rfl rfl rfl rfl rfl rfl rfl rfl rfl rfl rfl rfl rfl rfl rfl rfl rfl rfl rfl rfl ?_ ?_ | refine AOps.toStr Try.hX kn rfl rfl rfl rfl rfl rfl rfl rfl rfl rfl rfl (by first | exact rfl | exact byte1 _) rfl ?_ | refine AOps.buildArr Try.hX kn rfl rfl rfl rfl rfl rfl rfl rfl ?_ | refine AOps.indexArr Try.hX kn rfl rfl rfl rfl rfl rfl rfl rfl rfl rfl rfl rfl ?_ | refine AOps.runP1 Try.hX kn rfl rfl ?_ | (refine AOps.splitT rfl rfl rfl asmo (fun h => ?_) <;> (fail_if_success (cases h; done)) <;> rw [h]) | (refine AOps.splitF rfl rfl rfl asmo (fun h => ?_) <;> (fail_if_success (cases h; done)) <;> rw [h]) | (refine AOps.split rfl rfl rfl (fun h => ?_) (fun h => ?_) <;> (fail_if_success (cases h; done)) <;> rw [h]) | refine AOps.drawn (by kernel_rfl) ?_)
          all_goals
            show (_ : List LV) = _
            refine congrArg (fun l => [LV.own 1 (rows ++ byteRows l)]) ?_
            rw [← hinv]; simp
    · rw [bytes3]
      have hput := put_calls (rows ++ [CV.int .u8 (IntKind.u8.wrap 3)]) (((encNds args).length : Nat) : Int) (by rw [encNds_length]; unfold maxI; omega) (by rw [encNds_length]; unfold maxI; omega) (by simp only [List.length_append, List.length_cons, List.length_nil]; omega)
      refine ECalls.ofL Try.func89 rfl (fun args w => Try.call89 args w) (Nat.le_of_ble_eq_true rfl) [(0, .own (.tok 1000000 0) 1 (rows)), (1, .c (encNd (.mk 3 n p s args)))] [] [(1000000, 0)] [1000000] rfl rfl fun β => ?_; have hf := Try.func89
      repeat' (first | refine AK.runP Try.hX Try.mixed 300 rfl ?_ | refine AK.condTe rfl asmo ?_ | refine AK.condFe rfl asmo ?_ | (refine AK.condS rfl (fun h => ?_) (fun h => ?_) <;> first | (cases h; done) | rw [h] | skip) | refine AK.retE Try.hX hf rfl rfl rfl rfl ?_ (by with_reducible rfl) | refine AK.retE Try.hX hf rfl rfl rfl rfl ?_ ?_ | refine AK.endE Try.hX hf rfl rfl rfl rfl ?_ (by with_reducible rfl) | refine AK.endE Try.hX hf rfl rfl rfl rfl ?_ ?_ | refine AK.region Try.mixed rfl ?_ | refine AOps.done ?_ | refine AOps.runS Try.hX kn rfl ?_ | refine AOps.calle kn rfl rfl (hput) rfl ⟨_, _, rfl, rfl, ⟨_, _, rfl, rfl, rfl⟩⟩ rfl rfl rfl rfl rfl rfl rfl rfl rfl rfl rfl rfl rfl rfl ?_ | refine AOps.box kn rfl rfl rfl rfl rfl rfl ?_ | refine AOps.alloc Try.hX kn rfl rfl rfl rfl rfl rfl rfl ?_ | refine AOps.store Try.hX kn rfl rfl rfl rfl rfl rfl rfl rfl rfl rfl rfl ?_ | refine AOps.buildSlice Try.hX kn rfl rfl rfl rfl rfl rfl rfl rfl rfl rfl rfl rfl ?_ | refine AOps.append Try.hX kn rfl rfl rfl rfl rfl rfl rfl rfl rfl rfl rfl rfl rfl rfl rfl rfl rfl rfl rfl rfl rfl ?_ ?_ | refine AOps.toStr Try.hX kn rfl rfl rfl rfl rfl rfl rfl rfl rfl rfl rfl (by first | exact rfl | exact byte1 _) rfl ?_ | refine AOps.buildArr Try.hX kn rfl rfl rfl rfl rfl rfl rfl rfl ?_ | refine AOps.indexArr Try.hX kn rfl rfl rfl rfl rfl rfl rfl rfl rfl rfl rfl rfl ?_ | refine AOps.runP1 Try.hX kn rfl rfl ?_ | (refine AOps.splitT rfl rfl rfl asmo (fun h => ?_) <;> (fail_if_success (cases h; done)) <;> rw [h]) | (refine AOps.splitF rfl rfl rfl asmo (fun h => ?_) <;> (fail_if_success (cases h; done)) <;> rw [h]) | (refine AOps.split rfl rfl rfl (fun h => ?_) (fun h => ?_) <;> (fail_if_success (cases h; done)) <;> rw [h]) | refine AOps.drawn (by kernel_rfl) ?_)
      · simp only [List.length_cons, List.length_nil]; omega
      · have hpre : rows ++ [CV.int .u8 (IntKind.u8.wrap 3)] ++ byteRows (numB (((encNds args).length : Nat) : Int)) = rows ++ byteRows ([Go.Abs.byteOf 3] ++ numB (args.length : Int)) := by
          rw [encNds_length, byteRows_app, byteRows_cons, byteOf_val]; simp
        refine AK.ren [(3, 3)] [(1000000, (0, some 445000000))] (env' := [(47, .c (.int .i64 (0 : Nat))), (46, .c (.int .i64 (encNds args).length)), (45, .c (.sl 5 (encNds args))), (0, .own (.tok 1000000 0) 1 (rows ++ byteRows ([Go.Abs.byteOf 3] ++ numB (args.length : Int)))), (3, .ptr 3 0)])
          (bs' := [(3, [.c (.int .i64 3), .c (.int .i64 n), .c (.int .i64 p), .c (.str s), .c (.sl 5 (encNds args))])]) (ts' := [(1000000, 0)]) (us' := [3, 1000000])
          ⟨⟨_, rfl, .inl rfl⟩, ⟨_, rfl, .inl rfl⟩, ⟨_, rfl, .inl rfl⟩, ⟨_, rfl, ⟨_, rfl, .inr ⟨_, _, rfl, rfl, congrArg (AV.own (.tok 445000000 0) 1) hpre⟩⟩⟩, ⟨_, rfl, ⟨_, rfl, rfl⟩⟩, trivial⟩ ⟨⟨_, _, rfl, rfl, ⟨_, _, rfl, .inl rfl, ⟨_, _, rfl, .inl rfl, ⟨_, _, rfl, .inl rfl, ⟨_, _, rfl, .inl rfl, ⟨_, _, rfl, .inl rfl, rfl⟩⟩⟩⟩⟩⟩, trivial⟩ rfl ?_
        refine AK.loopE (α := Nat × List UInt8) (fun z => z.1 ≤ args.length ∧ [Go.Abs.byteOf 3] ++ numB (args.length : Int) ++ bytesNs args = z.2 ++ bytesNs (args.drop z.1) ∧ (rows.length + z.2.length) + 12 * ndsSize (args.drop z.1) ≤ 100000000) (fun z => args.length - z.1)
          (fun z => [(47, .c (.int .i64 z.1)), (46, .c (.int .i64 (encNds args).length)), (45, .c (.sl 5 (encNds args))), (0, .own (.tok 1000000 0) 1 (rows ++ byteRows z.2)), (3, .ptr 3 0)])
          (fun z => [(3, [.c (.int .i64 3), .c (.int .i64 n), .c (.int .i64 p), .c (.str s), .c (.sl 5 (encNds args))])]) (fun _ => [(1000000, 0)]) [3, 1000000] (0, [Go.Abs.byteOf 3] ++ numB (args.length : Int))
          ⟨by omega, by simp, by simp only [List.length_append, List.length_cons, List.length_nil, List.drop_zero]; omega⟩ ⟨.inl rfl, .inl rfl, .inl rfl, .inl rfl, .inl rfl, trivial⟩ ⟨rfl, trivial⟩ ⟨rfl, trivial⟩ rfl rfl rfl ?_
        rintro ⟨i, acc⟩ ⟨hi, hinv, hsz⟩ ih
        simp only at hi hinv hsz
        rcases get_or args i hi with ⟨x, hx, hm⟩ | he
        · have hc := nds_lt hx
          have hlt := lt_of_get hx
          rw [drop_at hx] at hsz hinv
          rw [bytesNs_cons] at hinv
          simp only [ndsSize] at hsz
          have hq := hin x hm (rows ++ byteRows acc) (by simp only [List.length_append, List.length_map]; omega)
          have hxl := bytesN_len x (d + 1) (hal x hm) (by have := ndsSize_mem hm; omega)
          have hap : rows ++ byteRows acc ++ byteRows (bytesN x) = rows ++ byteRows (acc ++ bytesN x) := by rw [byteRows_app, List.append_assoc]
          generalize bytesN x = bx at hq hxl hap hinv
          obtain ⟨x1, x2, x3, x4, x5⟩ := x
          repeat' (first | refine AK.runP Try.hX Try.mixed 300 rfl ?_ | refine AK.condTe rfl asmo ?_ | refine AK.condFe rfl asmo ?_ | (refine AK.condS rfl (fun h => ?_) (fun h => ?_) <;> first | (cases h; done) | rw [h] | skip) | refine AK.retE Try.hX hf rfl rfl rfl rfl ?_ (by with_reducible rfl) | refine AK.retE Try.hX hf rfl rfl rfl rfl ?_ ?_ | refine AK.endE Try.hX hf rfl rfl rfl rfl ?_ (by with_reducible rfl) | refine AK.endE Try.hX hf rfl rfl rfl rfl ?_ ?_ | refine AK.region Try.mixed rfl ?_ | refine AOps.done ?_ | refine AOps.runS Try.hX kn rfl ?_ | refine AOps.index Try.hX rfl rfl rfl rfl rfl rfl rfl rfl rfl rfl (i) rfl (nds_at hx) rfl ?_ | refine AOps.calle kn rfl rfl (hq) rfl ⟨_, _, rfl, rfl, ⟨_, _, rfl, rfl, rfl⟩⟩ rfl rfl rfl rfl rfl rfl rfl rfl rfl rfl rfl rfl rfl rfl ?_ | refine AOps.box kn rfl rfl rfl rfl rfl rfl ?_ | refine AOps.alloc Try.hX kn rfl rfl rfl rfl rfl rfl rfl ?_ | refine AOps.store Try.hX kn rfl rfl rfl rfl rfl rfl rfl rfl rfl rfl rfl ?_ | refine AOps.buildSlice Try.hX kn rfl rfl rfl rfl rfl rfl rfl rfl rfl rfl rfl rfl ?_ | refine AOps.append Try.hX kn rfl rfl rfl rfl rfl rfl rfl rfl rfl rfl rfl rfl rfl rfl rfl rfl rfl rfl rfl rfl rfl ?_ ?_ | refine AOps.toStr Try.hX kn rfl rfl rfl rfl rfl rfl rfl rfl rfl rfl rfl (by first | exact rfl | exact byte1 _) rfl ?_ | refine AOps.buildArr Try.hX kn rfl rfl rfl rfl rfl rfl rfl rfl ?_ | refine AOps.indexArr Try.hX kn rfl rfl rfl rfl rfl rfl rfl rfl rfl rfl rfl rfl ?_ | refine AOps.runP1 Try.hX kn rfl rfl ?_ | (refine AOps.splitT rfl rfl rfl asmo (fun h => ?_) <;> (fail_if_success (cases h; done)) <;> rw [h]) | (refine AOps.splitF rfl rfl rfl asmo (fun h => ?_) <;> (fail_if_success (cases h; done)) <;> rw [h]) | (refine AOps.split rfl rfl rfl (fun h => ?_) (fun h => ?_) <;> (fail_if_success (cases h; done)) <;> rw [h]) | refine AOps.drawn (by kernel_rfl) ?_)
          refine AK.ren [(3, 3)] [(1000000, (0, some 545000000))] (env' := [(47, .c (.int .i64 ((i + 1 : Nat) : Int))), (46, .c (.int .i64 (encNds args).length)), (45, .c (.sl 5 (encNds args))), (0, .own (.tok 1000000 0) 1 (rows ++ byteRows (acc ++ bx))), (3, .ptr 3 0)])
            (bs' := [(3, [.c (.int .i64 3), .c (.int .i64 n), .c (.int .i64 p), .c (.str s), .c (.sl 5 (encNds args))])]) (ts' := [(1000000, 0)]) (us' := [3, 1000000])
            ⟨⟨_, rfl, .inl (succ64' (i := i) (by omega))⟩, ⟨_, rfl, .inl rfl⟩, ⟨_, rfl, .inl rfl⟩, ⟨_, rfl, ⟨_, rfl, .inr ⟨_, _, rfl, rfl, congrArg (AV.own (.tok 545000000 0) 1) hap⟩⟩⟩, ⟨_, rfl, ⟨_, rfl, rfl⟩⟩, trivial⟩ ⟨⟨_, _, rfl, rfl, ⟨_, _, rfl, .inl rfl, ⟨_, _, rfl, .inl rfl, ⟨_, _, rfl, .inl rfl, ⟨_, _, rfl, .inl rfl, ⟨_, _, rfl, .inl rfl, rfl⟩⟩⟩⟩⟩⟩, trivial⟩ rfl ?_
          refine ih (i + 1, acc ++ bx) ⟨hlt, by show [Go.Abs.byteOf 3] ++ numB (args.length : Int) ++ bytesNs args = _; rw [hinv]; simp, by simp only [List.length_append]; omega⟩ (by show args.length - (i + 1) < args.length - i; omega)
        · have hc := nds_end he
          rw [he, List.drop_length, bytesNs_nil, List.append_nil] at hinv
          clear ih hin
          repeat' (first | refine AK.runP Try.hX Try.mixed 300 rfl ?_ | refine AK.condTe rfl asmo ?_ | refine AK.condFe rfl asmo ?_ | (refine AK.condS rfl (fun h => ?_) (fun h => ?_) <;> first | (cases h; done) | rw [h] | skip) | refine AK.retE Try.hX hf rfl rfl rfl rfl ?_ (by with_reducible rfl) | refine AK.retE Try.hX hf rfl rfl rfl rfl ?_ ?_ | refine AK.endE Try.hX hf rfl rfl rfl rfl ?_ (by with_reducible rfl) | refine AK.endE Try.hX hf rfl rfl rfl rfl ?_ ?_ | refine AK.region Try.mixed rfl ?_ | refine AOps.done ?_ | refine AOps.runS Try.hX kn rfl ?_ | refine AOps.box kn rfl rfl rfl rfl rfl rfl ?_ | refine AOps.alloc Try.hX kn rfl rfl rfl rfl rfl rfl rfl ?_ | refine AOps.store Try.hX kn rfl rfl rfl rfl rfl rfl rfl rfl rfl rfl rfl ?_ | refine AOps.buildSlice Try.hX kn rfl rfl rfl rfl rfl rfl rfl rfl rfl rfl rfl rfl ?_ | refine AOps.append Try.hX kn rfl rfl rfl rfl rfl rfl rfl rfl rfl rfl rfl rfl rfl rfl rfl rfl rfl rfl rfl rfl rfl ?_ ?_ | refine AOps.toStr Try.hX kn rfl rfl rfl rfl rfl rfl rfl rfl rfl rfl rfl (by first | exact rfl | exact byte1 _) rfl ?_ | refine AOps.buildArr Try.hX kn rfl rfl rfl rfl rfl rfl rfl rfl ?_ | refine AOps.indexArr Try.hX kn rfl rfl rfl rfl rfl rfl rfl rfl rfl rfl rfl rfl ?_ | refine AOps.runP1 Try.hX kn rfl rfl ?_ | (refine AOps.splitT rfl rfl rfl asmo (fun h => ?_) <;> (fail_if_success (cases h; done)) <;> rw [h]) | (refine AOps.splitF rfl rfl rfl asmo (fun h => ?_) <;> (fail_if_success (cases h; done)) <;> rw [h]) | (refine AOps.split rfl rfl rfl (fun h => ?_) (fun h => ?_) <;> (fail_if_success (cases h; done)) <;> rw [h]) | refine AOps.drawn (by kernel_rfl) ?_)
          all_goals
            show (_ : List LV) = _
            refine congrArg (fun l => [LV.own 1 (rows ++ byteRows l)]) ?_
            rw [← hinv]; simp
termination_by t => SizeOf.sizeOf t
decreasing_by
  have := List.sizeOf_lt_of_mem hx
  simp at this ⊢; omega

theorem tEncode_eq (n : Nd) : tEncode n = if tGoodN n = 0 then (bytesN n, 0) else ([], tGoodN n) := rfl
set_option maxHeartbeats 0 in
theorem Encode_calls (n : Nd) (hn : ndSize n ≤ 1048577) : QCalls Try.prog Try.X 42 [encNd n] (.tup [.str (tEncode n).1, .int .i64 (tEncode n).2]) := by
  have h1 := treeGood_calls n hn
  rw [tEncode_eq]
  by_cases hg : tGoodN n = 0
  · rw [if_pos hg]
    rw [hg] at h1
    have h2 := add_calls n [] 1 (tGoodN_zero.1 hg).1 hn (by simp only [List.length_nil]; omega)
    rw [List.nil_append] at h2
    generalize bytesN n = bx at h2
    obtain ⟨a1, a2, a3, a4, a5⟩ := n
    refine QCalls.of Try.func42 rfl (fun args w => Try.call42 args w) (Nat.le_of_ble_eq_true rfl) [(0, .c (encNd (.mk a1 a2 a3 a4 a5)))] rfl fun β hβ => ?_; have hf := Try.func42
    repeat' (first | refine AK.runP Try.hX Try.mixed 300 rfl ?_ | refine AK.condTe rfl asmo ?_ | refine AK.condFe rfl asmo ?_ | (refine AK.condS rfl (fun h => ?_) (fun h => ?_) <;> first | (cases h; done) | rw [h] | skip) | refine AK.retQ Try.hX hf rfl rfl ?_ | refine AK.region Try.mixed rfl ?_ | refine AOps.done ?_ | refine AOps.runS Try.hX kn rfl ?_ | refine AOps.callq kn rfl rfl rfl rfl (h1) ?_ | refine AOps.calle kn rfl rfl (h2) rfl ⟨_, _, rfl, rfl, ⟨_, _, rfl, rfl, rfl⟩⟩ rfl rfl rfl rfl rfl rfl rfl rfl rfl rfl rfl rfl rfl rfl ?_ | refine AOps.box kn rfl rfl rfl rfl rfl rfl ?_ | refine AOps.alloc Try.hX kn rfl rfl rfl rfl rfl rfl rfl ?_ | refine AOps.store Try.hX kn rfl rfl rfl rfl rfl rfl rfl rfl rfl rfl rfl ?_ | refine AOps.buildSlice Try.hX kn rfl rfl rfl rfl rfl rfl rfl rfl rfl rfl rfl rfl ?_ | refine AOps.append Try.hX kn rfl rfl rfl rfl rfl rfl rfl rfl rfl rfl rfl rfl rfl rfl rfl rfl rfl rfl rfl rfl rfl ?_ ?_ | refine AOps.toStr Try.hX kn rfl rfl rfl rfl rfl rfl rfl rfl rfl rfl rfl (by first | exact rfl | exact byte1 _) rfl ?_ | refine AOps.buildArr Try.hX kn rfl rfl rfl rfl rfl rfl rfl rfl ?_ | refine AOps.indexArr Try.hX kn rfl rfl rfl rfl rfl rfl rfl rfl rfl rfl rfl rfl ?_ | refine AOps.runP1 Try.hX kn rfl rfl ?_ | (refine AOps.splitT rfl rfl rfl asmo (fun h => ?_) <;> (fail_if_success (cases h; done)) <;> rw [h]) | (refine AOps.splitF rfl rfl rfl asmo (fun h => ?_) <;> (fail_if_success (cases h; done)) <;> rw [h]) | (refine AOps.split rfl rfl rfl (fun h => ?_) (fun h => ?_) <;> (fail_if_success (cases h; done)) <;> rw [h]) | refine AOps.drawn (by kernel_rfl) ?_)
    all_goals rfl
  · rw [if_neg hg]
    have c1 : (tGoodN n != 0) = true := by simpa using hg
    generalize tGoodN n = e at h1 c1
    obtain ⟨a1, a2, a3, a4, a5⟩ := n
    refine QCalls.of Try.func42 rfl (fun args w => Try.call42 args w) (Nat.le_of_ble_eq_true rfl) [(0, .c (encNd (.mk a1 a2 a3 a4 a5)))] rfl fun β hβ => ?_; have hf := Try.func42
    repeat' (first | refine AK.runP Try.hX Try.mixed 300 rfl ?_ | refine AK.condTe rfl asmo ?_ | refine AK.condFe rfl asmo ?_ | (refine AK.condS rfl (fun h => ?_) (fun h => ?_) <;> first | (cases h; done) | rw [h] | skip) | refine AK.retQ Try.hX hf rfl rfl ?_ | refine AK.region Try.mixed rfl ?_ | refine AOps.done ?_ | refine AOps.runS Try.hX kn rfl ?_ | refine AOps.callq kn rfl rfl rfl rfl (h1) ?_ | refine AOps.box kn rfl rfl rfl rfl rfl rfl ?_ | refine AOps.alloc Try.hX kn rfl rfl rfl rfl rfl rfl rfl ?_ | refine AOps.store Try.hX kn rfl rfl rfl rfl rfl rfl rfl rfl rfl rfl rfl ?_ | refine AOps.buildSlice Try.hX kn rfl rfl rfl rfl rfl rfl rfl rfl rfl rfl rfl rfl ?_ | refine AOps.append Try.hX kn rfl rfl rfl rfl rfl rfl rfl rfl rfl rfl rfl rfl rfl rfl rfl rfl rfl rfl rfl rfl rfl ?_ ?_ | refine AOps.toStr Try.hX kn rfl rfl rfl rfl rfl rfl rfl rfl rfl rfl rfl (by first | exact rfl | exact byte1 _) rfl ?_ | refine AOps.buildArr Try.hX kn rfl rfl rfl rfl rfl rfl rfl rfl ?_ | refine AOps.indexArr Try.hX kn rfl rfl rfl rfl rfl rfl rfl rfl rfl rfl rfl rfl ?_ | refine AOps.runP1 Try.hX kn rfl rfl ?_ | (refine AOps.splitT rfl rfl rfl asmo (fun h => ?_) <;> (fail_if_success (cases h; done)) <;> rw [h]) | (refine AOps.splitF rfl rfl rfl asmo (fun h => ?_) <;> (fail_if_success (cases h; done)) <;> rw [h]) | (refine AOps.split rfl rfl rfl (fun h => ?_) (fun h => ?_) <;> (fail_if_success (cases h; done)) <;> rw [h]) | refine AOps.drawn (by kernel_rfl) ?_)
    all_goals rfl

end Go.Proofs
