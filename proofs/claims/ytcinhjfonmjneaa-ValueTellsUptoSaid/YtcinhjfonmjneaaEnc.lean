/- What nodeText and EncodeNode of touchstoneref answer, and the law TreeEncodes. -/
-- WIDE
import Derived.Test.YtcinhjfonmjneaaGood
import Derived.Test.YtcinhjfonmjneaaTree6
import Derived.Test.YtcinhjfonmjneaaTree7
set_option linter.unusedVariables false
set_option linter.unusedSimpArgs false
namespace Go.Proofs
open Go.Abs
attribute [local irreducible] AK AOps QCalls ECalls bytesN bytesNs numB wrong wrongs tGoodN tEncode

set_option maxHeartbeats 0 in
theorem nodeText_calls : ∀ (t : Nd) (d : Int), wrong t d = 0 → ndSize t ≤ 1048577 → QCalls Try.prog Try.X 90 [encNd t] (.str (bytesN t))
  | .mk kind n p s args, d, hw, ht => by
    obtain ⟨h1, h2⟩ := wrong_eq hw
    obtain ⟨_, hk, _, _, _, _, hn1, hn2, hs2⟩ := wrong1_eq h1
    simp only [ndSize] at ht
    have hl1 := ndsSize_len args
    have hal := wrongs_at h2
    have hin : ∀ x ∈ args, QCalls Try.prog Try.X 90 [encNd x] (.str (bytesN x)) := fun x hx => nodeText_calls x (d + 1) (hal x hx) (by have := ndsSize_mem hx; omega)
    have hbl := bytesNs_len args (d + 1) h2 (by omega)
    have b3 := numB_len (n := (args.length : Int)) (by unfold maxI; omega) (by unfold maxI; omega)
    have b2 := numB_len (n := (s.length : Int)) (by unfold maxI; omega) (by unfold maxI; omega)
    have b1 := numB_len hn1 hn2
    rcases hk with rfl | rfl | ⟨rfl, hp⟩ | rfl
    · rw [bytes0]
      have hT := numberText_calls n hn1 hn2
      generalize numB n = bn at hT b1
      refine QCalls.of Try.func90 rfl (fun args w => Try.call90 args w) (Nat.le_of_ble_eq_true rfl) [(0, .c (encNd (.mk 0 n p s args)))] rfl fun β hβ => ?_; have hf := Try.func90
      repeat' (first | refine AK.runP Try.hX Try.mixed 300 rfl ?_ | refine AK.condTe rfl asm ?_ | refine AK.condFe rfl asm ?_ | (refine AK.condS rfl (fun h => ?_) (fun h => ?_) <;> first | (cases h; done) | rw [h] | skip) | refine AK.retQ Try.hX hf rfl rfl ?_ | refine AK.region Try.mixed rfl ?_ | refine AOps.done ?_ | refine AOps.runS Try.hX kn rfl ?_ | refine AOps.callq kn rfl rfl rfl rfl (hT) ?_ | refine AOps.concat Try.hX kn rfl rfl rfl rfl rfl (by (try simp only [List.length_append, List.length_cons, List.length_nil, encNds_length]); omega) ?_ | refine AOps.box kn rfl rfl rfl rfl rfl rfl ?_ | refine AOps.alloc Try.hX kn rfl rfl rfl rfl rfl rfl rfl ?_ | refine AOps.store Try.hX kn rfl rfl rfl rfl rfl rfl rfl rfl rfl rfl rfl ?_ | refine AOps.buildSlice Try.hX kn rfl rfl rfl rfl rfl rfl rfl rfl rfl rfl rfl rfl ?_ | refine AOps.append Try.hX kn rfl rfl rfl rfl rfl rfl rfl rfl rfl rfl rfl rfl rfl rfl rfl rfl rfl rfl rfl rfl rfl ?_ ?_ | refine AOps.toStr Try.hX kn rfl rfl rfl rfl rfl rfl rfl rfl rfl rfl rfl (by first | exact rfl | exact byte1 _) rfl ?_ | refine AOps.buildArr Try.hX kn rfl rfl rfl rfl rfl rfl rfl rfl ?_ | refine AOps.indexArr Try.hX kn rfl rfl rfl rfl rfl rfl rfl rfl rfl rfl rfl rfl ?_ | refine AOps.runP1 Try.hX kn rfl rfl ?_ | (refine AOps.splitT rfl rfl rfl asm (fun h => ?_) <;> (fail_if_success (cases h; done)) <;> rw [h]) | (refine AOps.splitF rfl rfl rfl asm (fun h => ?_) <;> (fail_if_success (cases h; done)) <;> rw [h]) | (refine AOps.split rfl rfl rfl (fun h => ?_) (fun h => ?_) <;> (fail_if_success (cases h; done)) <;> rw [h]) | refine AOps.drawn (by kernel_rfl) ?_)
      all_goals rfl
    · rw [bytes1]
      have hT := numberText_calls (s.length : Int) (by unfold maxI; omega) (by unfold maxI; omega)
      generalize numB (s.length : Int) = bn at hT b2
      refine QCalls.of Try.func90 rfl (fun args w => Try.call90 args w) (Nat.le_of_ble_eq_true rfl) [(0, .c (encNd (.mk 1 n p s args)))] rfl fun β hβ => ?_; have hf := Try.func90
      repeat' (first | refine AK.runP Try.hX Try.mixed 300 rfl ?_ | refine AK.condTe rfl asm ?_ | refine AK.condFe rfl asm ?_ | (refine AK.condS rfl (fun h => ?_) (fun h => ?_) <;> first | (cases h; done) | rw [h] | skip) | refine AK.retQ Try.hX hf rfl rfl ?_ | refine AK.region Try.mixed rfl ?_ | refine AOps.done ?_ | refine AOps.runS Try.hX kn rfl ?_ | refine AOps.callq kn rfl rfl rfl rfl (hT) ?_ | refine AOps.concat Try.hX kn rfl rfl rfl rfl rfl (by (try simp only [List.length_append, List.length_cons, List.length_nil, encNds_length]); omega) ?_ | refine AOps.box kn rfl rfl rfl rfl rfl rfl ?_ | refine AOps.alloc Try.hX kn rfl rfl rfl rfl rfl rfl rfl ?_ | refine AOps.store Try.hX kn rfl rfl rfl rfl rfl rfl rfl rfl rfl rfl rfl ?_ | refine AOps.buildSlice Try.hX kn rfl rfl rfl rfl rfl rfl rfl rfl rfl rfl rfl rfl ?_ | refine AOps.append Try.hX kn rfl rfl rfl rfl rfl rfl rfl rfl rfl rfl rfl rfl rfl rfl rfl rfl rfl rfl rfl rfl rfl ?_ ?_ | refine AOps.toStr Try.hX kn rfl rfl rfl rfl rfl rfl rfl rfl rfl rfl rfl (by first | exact rfl | exact byte1 _) rfl ?_ | refine AOps.buildArr Try.hX kn rfl rfl rfl rfl rfl rfl rfl rfl ?_ | refine AOps.indexArr Try.hX kn rfl rfl rfl rfl rfl rfl rfl rfl rfl rfl rfl rfl ?_ | refine AOps.runP1 Try.hX kn rfl rfl ?_ | (refine AOps.splitT rfl rfl rfl asm (fun h => ?_) <;> (fail_if_success (cases h; done)) <;> rw [h]) | (refine AOps.splitF rfl rfl rfl asm (fun h => ?_) <;> (fail_if_success (cases h; done)) <;> rw [h]) | (refine AOps.split rfl rfl rfl (fun h => ?_) (fun h => ?_) <;> (fail_if_success (cases h; done)) <;> rw [h]) | refine AOps.drawn (by kernel_rfl) ?_)
      all_goals rfl
    · rw [bytes2]
      have hT := numberText_calls (((encNds args).length : Nat) : Int) (by rw [encNds_length]; unfold maxI; omega) (by rw [encNds_length]; unfold maxI; omega)
      rw [← encNds_length] at b3
      rw [show (args.length : Int) = (((encNds args).length : Nat) : Int) from by rw [encNds_length]]
      generalize numB (((encNds args).length : Nat) : Int) = bn at hT b3
      refine QCalls.of Try.func90 rfl (fun args w => Try.call90 args w) (Nat.le_of_ble_eq_true rfl) [(0, .c (encNd (.mk 2 n p s args)))] rfl fun β hβ => ?_; have hf := Try.func90
      repeat' (first | refine AK.runP Try.hX Try.mixed 300 rfl ?_ | refine AK.condTe rfl asm ?_ | refine AK.condFe rfl asm ?_ | (refine AK.condS rfl (fun h => ?_) (fun h => ?_) <;> first | (cases h; done) | rw [h] | skip) | refine AK.retQ Try.hX hf rfl rfl ?_ | refine AK.region Try.mixed rfl ?_ | refine AOps.done ?_ | refine AOps.runS Try.hX kn rfl ?_ | refine AOps.callq kn rfl rfl rfl rfl (hT) ?_ | refine AOps.concat Try.hX kn rfl rfl rfl rfl rfl (by (try simp only [List.length_append, List.length_cons, List.length_nil, encNds_length]); omega) ?_ | refine AOps.box kn rfl rfl rfl rfl rfl rfl ?_ | refine AOps.alloc Try.hX kn rfl rfl rfl rfl rfl rfl rfl ?_ | refine AOps.store Try.hX kn rfl rfl rfl rfl rfl rfl rfl rfl rfl rfl rfl ?_ | refine AOps.buildSlice Try.hX kn rfl rfl rfl rfl rfl rfl rfl rfl rfl rfl rfl rfl ?_ | refine AOps.append Try.hX kn rfl rfl rfl rfl rfl rfl rfl rfl rfl rfl rfl rfl rfl rfl rfl rfl rfl rfl rfl rfl rfl ?_ ?_ | refine AOps.toStr Try.hX kn rfl rfl rfl rfl rfl rfl rfl rfl rfl rfl rfl (by first | exact rfl | exact byte1 _) rfl ?_ | refine AOps.buildArr Try.hX kn rfl rfl rfl rfl rfl rfl rfl rfl ?_ | refine AOps.indexArr Try.hX kn rfl rfl rfl rfl rfl rfl rfl rfl rfl rfl rfl rfl ?_ | refine AOps.runP1 Try.hX kn rfl rfl ?_ | (refine AOps.splitT rfl rfl rfl asm (fun h => ?_) <;> (fail_if_success (cases h; done)) <;> rw [h]) | (refine AOps.splitF rfl rfl rfl asm (fun h => ?_) <;> (fail_if_success (cases h; done)) <;> rw [h]) | (refine AOps.split rfl rfl rfl (fun h => ?_) (fun h => ?_) <;> (fail_if_success (cases h; done)) <;> rw [h]) | refine AOps.drawn (by kernel_rfl) ?_)
      refine AK.loopE (α := Nat × List UInt8) (fun z => z.1 ≤ args.length ∧ [Go.Abs.byteOf 2, Go.Abs.byteOf p] ++ bn ++ bytesNs args = z.2 ++ bytesNs (args.drop z.1) ∧ z.2.length + 12 * ndsSize (args.drop z.1) ≤ 100000000) (fun z => args.length - z.1)
        (fun z => [(42, .c (.int .i64 z.1)), (41, .c (.int .i64 (encNds args).length)), (40, .c (.sl 5 (encNds args))), (3, .c (.str z.2))])
        (fun _ => []) (fun _ => []) [] (0, [Go.Abs.byteOf 2, Go.Abs.byteOf p] ++ bn)
        ⟨by omega, rfl, by simp only [List.length_append, List.length_cons, List.length_nil, List.drop_zero]; omega⟩ ⟨.inl rfl, .inl rfl, .inl rfl, .inl rfl, trivial⟩ trivial trivial rfl rfl rfl ?_
      rintro ⟨i, acc⟩ ⟨hi, hinv, hsz⟩ ih
      simp only at hi hinv hsz
      rcases get_or args i hi with ⟨x, hx, hm⟩ | he
      · have hc := nds_lt hx
        have hlt := lt_of_get hx
        rw [drop_at hx] at hsz hinv
        rw [bytesNs_cons] at hinv
        simp only [ndsSize] at hsz
        have hq := hin x hm
        have hxl := bytesN_len x (d + 1) (hal x hm) (by have := ndsSize_mem hm; omega)
        generalize bytesN x = bx at hq hxl hinv
        obtain ⟨x1, x2, x3, x4, x5⟩ := x
        repeat' (first | refine AK.runP Try.hX Try.mixed 300 rfl ?_ | refine AK.condTe rfl asm ?_ | refine AK.condFe rfl asm ?_ | (refine AK.condS rfl (fun h => ?_) (fun h => ?_) <;> first | (cases h; done) | rw [h] | skip) | refine AK.retQ Try.hX hf rfl rfl ?_ | refine AK.region Try.mixed rfl ?_ | refine AOps.done ?_ | refine AOps.runS Try.hX kn rfl ?_ | refine AOps.index Try.hX rfl rfl rfl rfl rfl rfl rfl rfl rfl rfl (i) rfl (nds_at hx) rfl ?_ | refine AOps.callq kn rfl rfl rfl rfl (hq) ?_ | refine AOps.concat Try.hX kn rfl rfl rfl rfl rfl (by (try simp only [List.length_append, List.length_cons, List.length_nil, encNds_length]); omega) ?_ | refine AOps.box kn rfl rfl rfl rfl rfl rfl ?_ | refine AOps.alloc Try.hX kn rfl rfl rfl rfl rfl rfl rfl ?_ | refine AOps.store Try.hX kn rfl rfl rfl rfl rfl rfl rfl rfl rfl rfl rfl ?_ | refine AOps.buildSlice Try.hX kn rfl rfl rfl rfl rfl rfl rfl rfl rfl rfl rfl rfl ?_ | refine AOps.append Try.hX kn rfl rfl rfl rfl rfl rfl rfl rfl rfl rfl rfl rfl rfl rfl rfl rfl rfl rfl rfl rfl rfl ?_ ?_ | refine AOps.toStr Try.hX kn rfl rfl rfl rfl rfl rfl rfl rfl rfl rfl rfl (by first | exact rfl | exact byte1 _) rfl ?_ | refine AOps.buildArr Try.hX kn rfl rfl rfl rfl rfl rfl rfl rfl ?_ | refine AOps.indexArr Try.hX kn rfl rfl rfl rfl rfl rfl rfl rfl rfl rfl rfl rfl ?_ | refine AOps.runP1 Try.hX kn rfl rfl ?_ | (refine AOps.splitT rfl rfl rfl asm (fun h => ?_) <;> (fail_if_success (cases h; done)) <;> rw [h]) | (refine AOps.splitF rfl rfl rfl asm (fun h => ?_) <;> (fail_if_success (cases h; done)) <;> rw [h]) | (refine AOps.split rfl rfl rfl (fun h => ?_) (fun h => ?_) <;> (fail_if_success (cases h; done)) <;> rw [h]) | refine AOps.drawn (by kernel_rfl) ?_)
        refine AK.again (ih (i + 1, acc ++ bx) ⟨hlt, by show [Go.Abs.byteOf 2, Go.Abs.byteOf p] ++ bn ++ bytesNs args = _; rw [hinv]; simp, by simp only [List.length_append]; omega⟩ (by show args.length - (i + 1) < args.length - i; omega)) ⟨.inl (succ64 (by omega)), .inl rfl, .inl rfl, .inl rfl, trivial⟩ trivial trivial rfl rfl rfl
      · have hc := nds_end he
        rw [he, List.drop_length, bytesNs_nil, List.append_nil] at hinv
        clear ih hin
        repeat' (first | refine AK.runP Try.hX Try.mixed 300 rfl ?_ | refine AK.condTe rfl asm ?_ | refine AK.condFe rfl asm ?_ | (refine AK.condS rfl (fun h => ?_) (fun h => ?_) <;> first | (cases h; done) | rw [h] | skip) | refine AK.retQ Try.hX hf rfl rfl ?_ | refine AK.region Try.mixed rfl ?_ | refine AOps.done ?_ | refine AOps.runS Try.hX kn rfl ?_ | refine AOps.box kn rfl rfl rfl rfl rfl rfl ?_ | refine AOps.alloc Try.hX kn rfl rfl rfl rfl rfl rfl rfl ?_ | refine AOps.store Try.hX kn rfl rfl rfl rfl rfl rfl rfl rfl rfl rfl rfl ?_ | refine AOps.buildSlice Try.hX kn rfl rfl rfl rfl rfl rfl rfl rfl rfl rfl rfl rfl ?_ | refine AOps.append Try.hX kn rfl rfl rfl rfl rfl rfl rfl rfl rfl rfl rfl rfl rfl rfl rfl rfl rfl rfl rfl rfl rfl ?_ ?_ | refine AOps.toStr Try.hX kn rfl rfl rfl rfl rfl rfl rfl rfl rfl rfl rfl (by first | exact rfl | exact byte1 _) rfl ?_ | refine AOps.buildArr Try.hX kn rfl rfl rfl rfl rfl rfl rfl rfl ?_ | refine AOps.indexArr Try.hX kn rfl rfl rfl rfl rfl rfl rfl rfl rfl rfl rfl rfl ?_ | refine AOps.runP1 Try.hX kn rfl rfl ?_ | (refine AOps.splitT rfl rfl rfl asm (fun h => ?_) <;> (fail_if_success (cases h; done)) <;> rw [h]) | (refine AOps.splitF rfl rfl rfl asm (fun h => ?_) <;> (fail_if_success (cases h; done)) <;> rw [h]) | (refine AOps.split rfl rfl rfl (fun h => ?_) (fun h => ?_) <;> (fail_if_success (cases h; done)) <;> rw [h]) | refine AOps.drawn (by kernel_rfl) ?_)
        all_goals
          show (_ : CV) = _
          rw [← hinv]; rfl
    · rw [bytes3]
      have hT := numberText_calls (((encNds args).length : Nat) : Int) (by rw [encNds_length]; unfold maxI; omega) (by rw [encNds_length]; unfold maxI; omega)
      rw [← encNds_length] at b3
      rw [show (args.length : Int) = (((encNds args).length : Nat) : Int) from by rw [encNds_length]]
      generalize numB (((encNds args).length : Nat) : Int) = bn at hT b3
      refine QCalls.of Try.func90 rfl (fun args w => Try.call90 args w) (Nat.le_of_ble_eq_true rfl) [(0, .c (encNd (.mk 3 n p s args)))] rfl fun β hβ => ?_; have hf := Try.func90
      repeat' (first | refine AK.runP Try.hX Try.mixed 300 rfl ?_ | refine AK.condTe rfl asm ?_ | refine AK.condFe rfl asm ?_ | (refine AK.condS rfl (fun h => ?_) (fun h => ?_) <;> first | (cases h; done) | rw [h] | skip) | refine AK.retQ Try.hX hf rfl rfl ?_ | refine AK.region Try.mixed rfl ?_ | refine AOps.done ?_ | refine AOps.runS Try.hX kn rfl ?_ | refine AOps.callq kn rfl rfl rfl rfl (hT) ?_ | refine AOps.concat Try.hX kn rfl rfl rfl rfl rfl (by (try simp only [List.length_append, List.length_cons, List.length_nil, encNds_length]); omega) ?_ | refine AOps.box kn rfl rfl rfl rfl rfl rfl ?_ | refine AOps.alloc Try.hX kn rfl rfl rfl rfl rfl rfl rfl ?_ | refine AOps.store Try.hX kn rfl rfl rfl rfl rfl rfl rfl rfl rfl rfl rfl ?_ | refine AOps.buildSlice Try.hX kn rfl rfl rfl rfl rfl rfl rfl rfl rfl rfl rfl rfl ?_ | refine AOps.append Try.hX kn rfl rfl rfl rfl rfl rfl rfl rfl rfl rfl rfl rfl rfl rfl rfl rfl rfl rfl rfl rfl rfl ?_ ?_ | refine AOps.toStr Try.hX kn rfl rfl rfl rfl rfl rfl rfl rfl rfl rfl rfl (by first | exact rfl | exact byte1 _) rfl ?_ | refine AOps.buildArr Try.hX kn rfl rfl rfl rfl rfl rfl rfl rfl ?_ | refine AOps.indexArr Try.hX kn rfl rfl rfl rfl rfl rfl rfl rfl rfl rfl rfl rfl ?_ | refine AOps.runP1 Try.hX kn rfl rfl ?_ | (refine AOps.splitT rfl rfl rfl asm (fun h => ?_) <;> (fail_if_success (cases h; done)) <;> rw [h]) | (refine AOps.splitF rfl rfl rfl asm (fun h => ?_) <;> (fail_if_success (cases h; done)) <;> rw [h]) | (refine AOps.split rfl rfl rfl (fun h => ?_) (fun h => ?_) <;> (fail_if_success (cases h; done)) <;> rw [h]) | refine AOps.drawn (by kernel_rfl) ?_)
      refine AK.loopE (α := Nat × List UInt8) (fun z => z.1 ≤ args.length ∧ [Go.Abs.byteOf 3] ++ bn ++ bytesNs args = z.2 ++ bytesNs (args.drop z.1) ∧ z.2.length + 12 * ndsSize (args.drop z.1) ≤ 100000000) (fun z => args.length - z.1)
        (fun z => [(42, .c (.int .i64 z.1)), (41, .c (.int .i64 (encNds args).length)), (40, .c (.sl 5 (encNds args))), (3, .c (.str z.2))])
        (fun _ => []) (fun _ => []) [] (0, [Go.Abs.byteOf 3] ++ bn)
        ⟨by omega, rfl, by simp only [List.length_append, List.length_cons, List.length_nil, List.drop_zero]; omega⟩ ⟨.inl rfl, .inl rfl, .inl rfl, .inl rfl, trivial⟩ trivial trivial rfl rfl rfl ?_
      rintro ⟨i, acc⟩ ⟨hi, hinv, hsz⟩ ih
      simp only at hi hinv hsz
      rcases get_or args i hi with ⟨x, hx, hm⟩ | he
      · have hc := nds_lt hx
        have hlt := lt_of_get hx
        rw [drop_at hx] at hsz hinv
        rw [bytesNs_cons] at hinv
        simp only [ndsSize] at hsz
        have hq := hin x hm
        have hxl := bytesN_len x (d + 1) (hal x hm) (by have := ndsSize_mem hm; omega)
        generalize bytesN x = bx at hq hxl hinv
        obtain ⟨x1, x2, x3, x4, x5⟩ := x
        repeat' (first | refine AK.runP Try.hX Try.mixed 300 rfl ?_ | refine AK.condTe rfl asm ?_ | refine AK.condFe rfl asm ?_ | (refine AK.condS rfl (fun h => ?_) (fun h => ?_) <;> first | (cases h; done) | rw [h] | skip) | refine AK.retQ Try.hX hf rfl rfl ?_ | refine AK.region Try.mixed rfl ?_ | refine AOps.done ?_ | refine AOps.runS Try.hX kn rfl ?_ | refine AOps.index Try.hX rfl rfl rfl rfl rfl rfl rfl rfl rfl rfl (i) rfl (nds_at hx) rfl ?_ | refine AOps.callq kn rfl rfl rfl rfl (hq) ?_ | refine AOps.concat Try.hX kn rfl rfl rfl rfl rfl (by (try simp only [List.length_append, List.length_cons, List.length_nil, encNds_length]); omega) ?_ | refine AOps.box kn rfl rfl rfl rfl rfl rfl ?_ | refine AOps.alloc Try.hX kn rfl rfl rfl rfl rfl rfl rfl ?_ | refine AOps.store Try.hX kn rfl rfl rfl rfl rfl rfl rfl rfl rfl rfl rfl ?_ | refine AOps.buildSlice Try.hX kn rfl rfl rfl rfl rfl rfl rfl rfl rfl rfl rfl rfl ?_ | refine AOps.append Try.hX kn rfl rfl rfl rfl rfl rfl rfl rfl rfl rfl rfl rfl rfl rfl rfl rfl rfl rfl rfl rfl rfl ?_ ?_ | refine AOps.toStr Try.hX kn rfl rfl rfl rfl rfl rfl rfl rfl rfl rfl rfl (by first | exact rfl | exact byte1 _) rfl ?_ | refine AOps.buildArr Try.hX kn rfl rfl rfl rfl rfl rfl rfl rfl ?_ | refine AOps.indexArr Try.hX kn rfl rfl rfl rfl rfl rfl rfl rfl rfl rfl rfl rfl ?_ | refine AOps.runP1 Try.hX kn rfl rfl ?_ | (refine AOps.splitT rfl rfl rfl asm (fun h => ?_) <;> (fail_if_success (cases h; done)) <;> rw [h]) | (refine AOps.splitF rfl rfl rfl asm (fun h => ?_) <;> (fail_if_success (cases h; done)) <;> rw [h]) | (refine AOps.split rfl rfl rfl (fun h => ?_) (fun h => ?_) <;> (fail_if_success (cases h; done)) <;> rw [h]) | refine AOps.drawn (by kernel_rfl) ?_)
        refine AK.again (ih (i + 1, acc ++ bx) ⟨hlt, by show [Go.Abs.byteOf 3] ++ bn ++ bytesNs args = _; rw [hinv]; simp, by simp only [List.length_append]; omega⟩ (by show args.length - (i + 1) < args.length - i; omega)) ⟨.inl (succ64 (by omega)), .inl rfl, .inl rfl, .inl rfl, trivial⟩ trivial trivial rfl rfl rfl
      · have hc := nds_end he
        rw [he, List.drop_length, bytesNs_nil, List.append_nil] at hinv
        clear ih hin
        repeat' (first | refine AK.runP Try.hX Try.mixed 300 rfl ?_ | refine AK.condTe rfl asm ?_ | refine AK.condFe rfl asm ?_ | (refine AK.condS rfl (fun h => ?_) (fun h => ?_) <;> first | (cases h; done) | rw [h] | skip) | refine AK.retQ Try.hX hf rfl rfl ?_ | refine AK.region Try.mixed rfl ?_ | refine AOps.done ?_ | refine AOps.runS Try.hX kn rfl ?_ | refine AOps.box kn rfl rfl rfl rfl rfl rfl ?_ | refine AOps.alloc Try.hX kn rfl rfl rfl rfl rfl rfl rfl ?_ | refine AOps.store Try.hX kn rfl rfl rfl rfl rfl rfl rfl rfl rfl rfl rfl ?_ | refine AOps.buildSlice Try.hX kn rfl rfl rfl rfl rfl rfl rfl rfl rfl rfl rfl rfl ?_ | refine AOps.append Try.hX kn rfl rfl rfl rfl rfl rfl rfl rfl rfl rfl rfl rfl rfl rfl rfl rfl rfl rfl rfl rfl rfl ?_ ?_ | refine AOps.toStr Try.hX kn rfl rfl rfl rfl rfl rfl rfl rfl rfl rfl rfl (by first | exact rfl | exact byte1 _) rfl ?_ | refine AOps.buildArr Try.hX kn rfl rfl rfl rfl rfl rfl rfl rfl ?_ | refine AOps.indexArr Try.hX kn rfl rfl rfl rfl rfl rfl rfl rfl rfl rfl rfl rfl ?_ | refine AOps.runP1 Try.hX kn rfl rfl ?_ | (refine AOps.splitT rfl rfl rfl asm (fun h => ?_) <;> (fail_if_success (cases h; done)) <;> rw [h]) | (refine AOps.splitF rfl rfl rfl asm (fun h => ?_) <;> (fail_if_success (cases h; done)) <;> rw [h]) | (refine AOps.split rfl rfl rfl (fun h => ?_) (fun h => ?_) <;> (fail_if_success (cases h; done)) <;> rw [h]) | refine AOps.drawn (by kernel_rfl) ?_)
        all_goals
          show (_ : CV) = _
          rw [← hinv]; rfl
termination_by t => SizeOf.sizeOf t
decreasing_by
  have := List.sizeOf_lt_of_mem hx
  simp at this ⊢; omega

set_option maxHeartbeats 0 in
theorem EncodeNode_calls (n : Nd) (hw : ndWf n) (hn : ndSize n ≤ 1048577) : QCalls Try.prog Try.X 43 [encNd n] (.tup [.str (tEncode n).1, .int .i64 (tEncode n).2]) := by
  have hG := GoodNode_calls n hw hn
  rw [tEncode_eq]
  by_cases h : tGoodN n = 0
  · have hT := nodeText_calls n 1 (tGoodN_zero.1 h).1 hn
    rw [if_pos h]
    rw [h] at hG
    obtain ⟨n1, n2, n3, n4, n5⟩ := n
    refine QCalls.of Try.func43 rfl (fun args w => Try.call43 args w) (Nat.le_of_ble_eq_true rfl) [(0, .c (encNd (.mk n1 n2 n3 n4 n5)))] rfl fun β hβ => ?_; have hf := Try.func43
    repeat' (first | refine AK.runP Try.hX Try.mixed 300 rfl ?_ | refine AK.condTe rfl asm ?_ | refine AK.condFe rfl asm ?_ | (refine AK.condS rfl (fun h => ?_) (fun h => ?_) <;> first | (cases h; done) | rw [h] | skip) | refine AK.retQ Try.hX hf rfl rfl ?_ | refine AK.region Try.mixed rfl ?_ | refine AOps.done ?_ | refine AOps.runS Try.hX kn rfl ?_ | refine AOps.callq kn rfl rfl rfl rfl (hG) ?_ | refine AOps.callq kn rfl rfl rfl rfl (hT) ?_ | refine AOps.box kn rfl rfl rfl rfl rfl rfl ?_ | refine AOps.alloc Try.hX kn rfl rfl rfl rfl rfl rfl rfl ?_ | refine AOps.store Try.hX kn rfl rfl rfl rfl rfl rfl rfl rfl rfl rfl rfl ?_ | refine AOps.buildSlice Try.hX kn rfl rfl rfl rfl rfl rfl rfl rfl rfl rfl rfl rfl ?_ | refine AOps.append Try.hX kn rfl rfl rfl rfl rfl rfl rfl rfl rfl rfl rfl rfl rfl rfl rfl rfl rfl rfl rfl rfl rfl ?_ ?_ | refine AOps.toStr Try.hX kn rfl rfl rfl rfl rfl rfl rfl rfl rfl rfl rfl (by first | exact rfl | exact byte1 _) rfl ?_ | refine AOps.buildArr Try.hX kn rfl rfl rfl rfl rfl rfl rfl rfl ?_ | refine AOps.indexArr Try.hX kn rfl rfl rfl rfl rfl rfl rfl rfl rfl rfl rfl rfl ?_ | refine AOps.runP1 Try.hX kn rfl rfl ?_ | (refine AOps.splitT rfl rfl rfl asm (fun h => ?_) <;> (fail_if_success (cases h; done)) <;> rw [h]) | (refine AOps.splitF rfl rfl rfl asm (fun h => ?_) <;> (fail_if_success (cases h; done)) <;> rw [h]) | (refine AOps.split rfl rfl rfl (fun h => ?_) (fun h => ?_) <;> (fail_if_success (cases h; done)) <;> rw [h]) | refine AOps.drawn (by kernel_rfl) ?_)
    all_goals rfl
  · rw [if_neg h]
    have e1 : (tGoodN n != 0) = true := by simpa using h
    generalize tGoodN n = g at hG e1
    obtain ⟨n1, n2, n3, n4, n5⟩ := n
    refine QCalls.of Try.func43 rfl (fun args w => Try.call43 args w) (Nat.le_of_ble_eq_true rfl) [(0, .c (encNd (.mk n1 n2 n3 n4 n5)))] rfl fun β hβ => ?_; have hf := Try.func43
    repeat' (first | refine AK.runP Try.hX Try.mixed 300 rfl ?_ | refine AK.condTe rfl asm ?_ | refine AK.condFe rfl asm ?_ | (refine AK.condS rfl (fun h => ?_) (fun h => ?_) <;> first | (cases h; done) | rw [h] | skip) | refine AK.retQ Try.hX hf rfl rfl ?_ | refine AK.region Try.mixed rfl ?_ | refine AOps.done ?_ | refine AOps.runS Try.hX kn rfl ?_ | refine AOps.callq kn rfl rfl rfl rfl (hG) ?_ | refine AOps.box kn rfl rfl rfl rfl rfl rfl ?_ | refine AOps.alloc Try.hX kn rfl rfl rfl rfl rfl rfl rfl ?_ | refine AOps.store Try.hX kn rfl rfl rfl rfl rfl rfl rfl rfl rfl rfl rfl ?_ | refine AOps.buildSlice Try.hX kn rfl rfl rfl rfl rfl rfl rfl rfl rfl rfl rfl rfl ?_ | refine AOps.append Try.hX kn rfl rfl rfl rfl rfl rfl rfl rfl rfl rfl rfl rfl rfl rfl rfl rfl rfl rfl rfl rfl rfl ?_ ?_ | refine AOps.toStr Try.hX kn rfl rfl rfl rfl rfl rfl rfl rfl rfl rfl rfl (by first | exact rfl | exact byte1 _) rfl ?_ | refine AOps.buildArr Try.hX kn rfl rfl rfl rfl rfl rfl rfl rfl ?_ | refine AOps.indexArr Try.hX kn rfl rfl rfl rfl rfl rfl rfl rfl rfl rfl rfl rfl ?_ | refine AOps.runP1 Try.hX kn rfl rfl ?_ | (refine AOps.splitT rfl rfl rfl asm (fun h => ?_) <;> (fail_if_success (cases h; done)) <;> rw [h]) | (refine AOps.splitF rfl rfl rfl asm (fun h => ?_) <;> (fail_if_success (cases h; done)) <;> rw [h]) | (refine AOps.split rfl rfl rfl (fun h => ?_) (fun h => ?_) <;> (fail_if_success (cases h; done)) <;> rw [h]) | refine AOps.drawn (by kernel_rfl) ?_)
    all_goals rfl

end Go.Proofs
