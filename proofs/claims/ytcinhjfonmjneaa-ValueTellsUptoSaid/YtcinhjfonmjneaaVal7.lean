/- What has, Has and Compare of touchstoneref answer; the law ValueHas. -/
import Derived.Test.YtcinhjfonmjneaaVal4
import Derived.Test.YtcinhjfonmjneaaVal6
set_option linter.unusedVariables false
set_option linter.unusedSimpArgs false
set_option maxRecDepth 100000
namespace Go.Proofs
open Go.Abs
theorem vlsWf_of {k n a : Int} {s : List UInt8} {args : List Vl} {types : List Ty} {code : List Nd} (h : vlWf (.mk k n a s args types code)) : I64 n ∧ vlsWf args := by
  simp only [vlWf] at h; exact ⟨h.2.1, h.2.2.2.1⟩
attribute [local irreducible] AK AOps QCalls ECalls vCmp vHas vHasAll vHasRow vSame vsSame tGood tComp tGoodN vSize tySame tysSame ndSame ndsSame tHas rOrd rOrds bareB mapB vUp

set_option maxHeartbeats 0 in
theorem rHas_of (u : Ty) (x : Vl) (hu : tySize u ≤ 1048577) (hq : tGood u = true → QCalls Try.prog Try.X 114 [encTy u, encVl x] (.bool (vHas x u))) : QCalls Try.prog Try.X 71 [encTy u, encVl x] (.bool (tHas u x)) := by
  obtain ⟨T, ts⟩ := u
  obtain ⟨x1, x2, x3, x4, x5, x6, x7⟩ := x
  have h1 := GoodType_calls (.mk T ts) hu
  cases hg : tGood (.mk T ts) with
  | false =>
    rw [hg] at h1
    rw [show tHas (.mk T ts) (.mk x1 x2 x3 x4 x5 x6 x7) = false from by unfold tHas; rw [hg, Bool.false_and]]
    refine QCalls.of Try.func71 rfl (fun args w => Try.call71 args w) (Nat.le_of_ble_eq_true rfl) [(0, .c (encTy (.mk T ts))), (1, .c (encVl (.mk x1 x2 x3 x4 x5 x6 x7)))] rfl fun β hβ => ?_; have hf := Try.func71
    exact dq
  | true =>
    have h2 := hq hg
    rw [hg] at h1
    rw [show tHas (.mk T ts) (.mk x1 x2 x3 x4 x5 x6 x7) = vHas (.mk x1 x2 x3 x4 x5 x6 x7) (.mk T ts) from by unfold tHas; rw [hg, Bool.true_and]]
    generalize vHas (.mk x1 x2 x3 x4 x5 x6 x7) (.mk T ts) = b at h2
    refine QCalls.of Try.func71 rfl (fun args w => Try.call71 args w) (Nat.le_of_ble_eq_true rfl) [(0, .c (encTy (.mk T ts))), (1, .c (encVl (.mk x1 x2 x3 x4 x5 x6 x7)))] rfl fun β hβ => ?_; have hf := Try.func71
    exact dq

set_option maxHeartbeats 0 in
theorem rhas_calls : ∀ (v : Vl) (t : Ty), tBad t = false → tKeys t = true → vlWf v → vlSize v ≤ 1048577 → tySize t ≤ 1048577 → QCalls Try.prog Try.X 114 [encTy t, encVl v] (.bool (vHas v t))
  | .mk k n a s args types code, .mk T ts, hb, hky, hwf, hv, ht => by
    obtain ⟨hn64, hwa⟩ := vlsWf_of hwf
    simp only [vlSize] at hv
    simp only [tySize] at ht
    have hl1 := vlsSize_len args
    have hin : ∀ x ∈ args, ∀ u, tBad u = false → tKeys u = true → tySize u ≤ 1048577 → QCalls Try.prog Try.X 114 [encTy u, encVl x] (.bool (vHas x u)) := fun x hx u h1 h2 h3 => rhas_calls x u h1 h2 (vlsWf_mem hwa hx) (by have := vlsSize_mem hx; omega) h3
    clear hwf
    by_cases d1 : k = T
    rotate_left
    · have e1 : (T != k) = true := by simp; exact fun h => d1 h.symm
      rw [has_no _ _ _ _ _ _ _ _ (.inl d1)]
      refine QCalls.of Try.func114 rfl (fun args w => Try.call114 args w) (Nat.le_of_ble_eq_true rfl) [(0, .c (encTy (.mk T ts))), (1, .c (encVl (.mk k n a s args types code)))] rfl fun β hβ => ?_; have hf := Try.func114
      exact dq
    subst d1
    have e1 : (k != k) = false := by simp
    obtain ⟨har, hbs⟩ := tBad_args hb
    simp only [tyT, tyArgs] at har hbs
    have hks : tsKeys ts = true := by simp only [tKeys, Bool.and_eq_true] at hky; exact hky.2
    by_cases c : k = 1
    · subst c
      rw [rb1]
      have h0 := bare_calls (.mk 1 n a s args types code) false false false 0 0 false
      generalize bareB (.mk 1 n a s args types code) false false false 0 0 false = B at h0
      refine QCalls.of Try.func114 rfl (fun args w => Try.call114 args w) (Nat.le_of_ble_eq_true rfl) [(0, .c (encTy (.mk 1 ts))), (1, .c (encVl (.mk 1 n a s args types code)))] rfl fun β hβ => ?_; have hf := Try.func114
      repeat' (first | refine AK.runP Try.hX Try.mixed 300 rfl ?_ | refine AK.condTe rfl asm ?_ | refine AK.condFe rfl asm ?_ | (refine AK.condS rfl (fun h => ?_) (fun h => ?_) <;> first | (cases h; done) | rw [h] | skip) | refine AK.retQ Try.hX hf rfl rfl ?_ | refine AK.region Try.mixed rfl ?_ | refine AOps.done ?_ | refine AOps.runS Try.hX kn rfl ?_ | refine AOps.callq kn rfl rfl rfl rfl (h0) ?_ | refine AOps.box kn rfl rfl rfl rfl rfl rfl ?_ | refine AOps.alloc Try.hX kn rfl rfl rfl rfl rfl rfl rfl ?_ | refine AOps.store Try.hX kn rfl rfl rfl rfl rfl rfl rfl rfl rfl rfl rfl ?_ | refine AOps.buildSlice Try.hX kn rfl rfl rfl rfl rfl rfl rfl rfl rfl rfl rfl rfl ?_ | refine AOps.append Try.hX kn rfl rfl rfl rfl rfl rfl rfl rfl rfl rfl rfl rfl rfl rfl rfl rfl rfl rfl rfl rfl rfl ?_ ?_ | refine AOps.toStr Try.hX kn rfl rfl rfl rfl rfl rfl rfl rfl rfl rfl rfl (by first | exact rfl | exact byte1 _) rfl ?_ | refine AOps.buildArr Try.hX kn rfl rfl rfl rfl rfl rfl rfl rfl ?_ | refine AOps.indexArr Try.hX kn rfl rfl rfl rfl rfl rfl rfl rfl rfl rfl rfl rfl ?_ | refine AOps.runP1 Try.hX kn rfl rfl ?_ | (refine AOps.splitT rfl rfl rfl asm (fun h => ?_) <;> (fail_if_success (cases h; done)) <;> rw [h]) | (refine AOps.splitF rfl rfl rfl asm (fun h => ?_) <;> (fail_if_success (cases h; done)) <;> rw [h]) | (refine AOps.split rfl rfl rfl (fun h => ?_) (fun h => ?_) <;> (fail_if_success (cases h; done)) <;> rw [h]) | refine AOps.drawn (by kernel_rfl) ?_)
      all_goals
        show (_ : CV) = _
        clear hf hin h0 
        simp_all
    by_cases c : k = 2
    · subst c
      rw [rb2]
      have h0 := bare_calls (.mk 2 n a s args types code) true false false 0 0 false
      generalize bareB (.mk 2 n a s args types code) true false false 0 0 false = B at h0
      refine QCalls.of Try.func114 rfl (fun args w => Try.call114 args w) (Nat.le_of_ble_eq_true rfl) [(0, .c (encTy (.mk 2 ts))), (1, .c (encVl (.mk 2 n a s args types code)))] rfl fun β hβ => ?_; have hf := Try.func114
      repeat' (first | refine AK.runP Try.hX Try.mixed 300 rfl ?_ | refine AK.condTe rfl asm ?_ | refine AK.condFe rfl asm ?_ | (refine AK.condS rfl (fun h => ?_) (fun h => ?_) <;> first | (cases h; done) | rw [h] | skip) | refine AK.retQ Try.hX hf rfl rfl ?_ | refine AK.region Try.mixed rfl ?_ | refine AOps.done ?_ | refine AOps.runS Try.hX kn rfl ?_ | refine AOps.callq kn rfl rfl rfl rfl (h0) ?_ | refine AOps.box kn rfl rfl rfl rfl rfl rfl ?_ | refine AOps.alloc Try.hX kn rfl rfl rfl rfl rfl rfl rfl ?_ | refine AOps.store Try.hX kn rfl rfl rfl rfl rfl rfl rfl rfl rfl rfl rfl ?_ | refine AOps.buildSlice Try.hX kn rfl rfl rfl rfl rfl rfl rfl rfl rfl rfl rfl rfl ?_ | refine AOps.append Try.hX kn rfl rfl rfl rfl rfl rfl rfl rfl rfl rfl rfl rfl rfl rfl rfl rfl rfl rfl rfl rfl rfl ?_ ?_ | refine AOps.toStr Try.hX kn rfl rfl rfl rfl rfl rfl rfl rfl rfl rfl rfl (by first | exact rfl | exact byte1 _) rfl ?_ | refine AOps.buildArr Try.hX kn rfl rfl rfl rfl rfl rfl rfl rfl ?_ | refine AOps.indexArr Try.hX kn rfl rfl rfl rfl rfl rfl rfl rfl rfl rfl rfl rfl ?_ | refine AOps.runP1 Try.hX kn rfl rfl ?_ | (refine AOps.splitT rfl rfl rfl asm (fun h => ?_) <;> (fail_if_success (cases h; done)) <;> rw [h]) | (refine AOps.splitF rfl rfl rfl asm (fun h => ?_) <;> (fail_if_success (cases h; done)) <;> rw [h]) | (refine AOps.split rfl rfl rfl (fun h => ?_) (fun h => ?_) <;> (fail_if_success (cases h; done)) <;> rw [h]) | refine AOps.drawn (by kernel_rfl) ?_)
      all_goals
        show (_ : CV) = _
        clear hf hin h0 
        simp_all
    by_cases c : k = 3
    · subst c
      rw [rb3]
      have h0 := bare_calls (.mk 3 n a s args types code) true false false 0 0 false
      generalize bareB (.mk 3 n a s args types code) true false false 0 0 false = B at h0
      have h1 := rIn_calls n hn64
      rw [nIn_dec] at h1
      refine QCalls.of Try.func114 rfl (fun args w => Try.call114 args w) (Nat.le_of_ble_eq_true rfl) [(0, .c (encTy (.mk 3 ts))), (1, .c (encVl (.mk 3 n a s args types code)))] rfl fun β hβ => ?_; have hf := Try.func114
      repeat' (first | refine AK.runP Try.hX Try.mixed 300 rfl ?_ | refine AK.condTe rfl asm ?_ | refine AK.condFe rfl asm ?_ | (refine AK.condS rfl (fun h => ?_) (fun h => ?_) <;> first | (cases h; done) | rw [h] | skip) | refine AK.retQ Try.hX hf rfl rfl ?_ | refine AK.region Try.mixed rfl ?_ | refine AOps.done ?_ | refine AOps.runS Try.hX kn rfl ?_ | refine AOps.callq kn rfl rfl rfl rfl (h0) ?_ | refine AOps.callq kn rfl rfl rfl rfl (h1) ?_ | refine AOps.box kn rfl rfl rfl rfl rfl rfl ?_ | refine AOps.alloc Try.hX kn rfl rfl rfl rfl rfl rfl rfl ?_ | refine AOps.store Try.hX kn rfl rfl rfl rfl rfl rfl rfl rfl rfl rfl rfl ?_ | refine AOps.buildSlice Try.hX kn rfl rfl rfl rfl rfl rfl rfl rfl rfl rfl rfl rfl ?_ | refine AOps.append Try.hX kn rfl rfl rfl rfl rfl rfl rfl rfl rfl rfl rfl rfl rfl rfl rfl rfl rfl rfl rfl rfl rfl ?_ ?_ | refine AOps.toStr Try.hX kn rfl rfl rfl rfl rfl rfl rfl rfl rfl rfl rfl (by first | exact rfl | exact byte1 _) rfl ?_ | refine AOps.buildArr Try.hX kn rfl rfl rfl rfl rfl rfl rfl rfl ?_ | refine AOps.indexArr Try.hX kn rfl rfl rfl rfl rfl rfl rfl rfl rfl rfl rfl rfl ?_ | refine AOps.runP1 Try.hX kn rfl rfl ?_ | (refine AOps.splitT rfl rfl rfl asm (fun h => ?_) <;> (fail_if_success (cases h; done)) <;> rw [h]) | (refine AOps.splitF rfl rfl rfl asm (fun h => ?_) <;> (fail_if_success (cases h; done)) <;> rw [h]) | (refine AOps.split rfl rfl rfl (fun h => ?_) (fun h => ?_) <;> (fail_if_success (cases h; done)) <;> rw [h]) | refine AOps.drawn (by kernel_rfl) ?_)
      all_goals
        show (_ : CV) = _
        clear hf hin h0 h1
        simp_all
    by_cases c : k = 4
    · subst c
      rw [rb45 4 n a (.inl rfl)]
      have h0 := bare_calls (.mk 4 n a s args types code) true false false 0 0 false
      generalize bareB (.mk 4 n a s args types code) true false false 0 0 false = B at h0
      have h1 := natural_calls n
      refine QCalls.of Try.func114 rfl (fun args w => Try.call114 args w) (Nat.le_of_ble_eq_true rfl) [(0, .c (encTy (.mk 4 ts))), (1, .c (encVl (.mk 4 n a s args types code)))] rfl fun β hβ => ?_; have hf := Try.func114
      repeat' (first | refine AK.runP Try.hX Try.mixed 300 rfl ?_ | refine AK.condTe rfl asm ?_ | refine AK.condFe rfl asm ?_ | (refine AK.condS rfl (fun h => ?_) (fun h => ?_) <;> first | (cases h; done) | rw [h] | skip) | refine AK.retQ Try.hX hf rfl rfl ?_ | refine AK.region Try.mixed rfl ?_ | refine AOps.done ?_ | refine AOps.runS Try.hX kn rfl ?_ | refine AOps.callq kn rfl rfl rfl rfl (h0) ?_ | refine AOps.callq kn rfl rfl rfl rfl (h1) ?_ | refine AOps.box kn rfl rfl rfl rfl rfl rfl ?_ | refine AOps.alloc Try.hX kn rfl rfl rfl rfl rfl rfl rfl ?_ | refine AOps.store Try.hX kn rfl rfl rfl rfl rfl rfl rfl rfl rfl rfl rfl ?_ | refine AOps.buildSlice Try.hX kn rfl rfl rfl rfl rfl rfl rfl rfl rfl rfl rfl rfl ?_ | refine AOps.append Try.hX kn rfl rfl rfl rfl rfl rfl rfl rfl rfl rfl rfl rfl rfl rfl rfl rfl rfl rfl rfl rfl rfl ?_ ?_ | refine AOps.toStr Try.hX kn rfl rfl rfl rfl rfl rfl rfl rfl rfl rfl rfl (by first | exact rfl | exact byte1 _) rfl ?_ | refine AOps.buildArr Try.hX kn rfl rfl rfl rfl rfl rfl rfl rfl ?_ | refine AOps.indexArr Try.hX kn rfl rfl rfl rfl rfl rfl rfl rfl rfl rfl rfl rfl ?_ | refine AOps.runP1 Try.hX kn rfl rfl ?_ | (refine AOps.splitT rfl rfl rfl asm (fun h => ?_) <;> (fail_if_success (cases h; done)) <;> rw [h]) | (refine AOps.splitF rfl rfl rfl asm (fun h => ?_) <;> (fail_if_success (cases h; done)) <;> rw [h]) | (refine AOps.split rfl rfl rfl (fun h => ?_) (fun h => ?_) <;> (fail_if_success (cases h; done)) <;> rw [h]) | refine AOps.drawn (by kernel_rfl) ?_)
      all_goals
        show (_ : CV) = _
        clear hf hin h0 h1
        simp_all
    by_cases c : k = 5
    · subst c
      rw [rb45 5 n a (.inr rfl)]
      have h0 := bare_calls (.mk 5 n a s args types code) true false false 0 0 false
      generalize bareB (.mk 5 n a s args types code) true false false 0 0 false = B at h0
      have h1 := natural_calls n
      refine QCalls.of Try.func114 rfl (fun args w => Try.call114 args w) (Nat.le_of_ble_eq_true rfl) [(0, .c (encTy (.mk 5 ts))), (1, .c (encVl (.mk 5 n a s args types code)))] rfl fun β hβ => ?_; have hf := Try.func114
      repeat' (first | refine AK.runP Try.hX Try.mixed 300 rfl ?_ | refine AK.condTe rfl asm ?_ | refine AK.condFe rfl asm ?_ | (refine AK.condS rfl (fun h => ?_) (fun h => ?_) <;> first | (cases h; done) | rw [h] | skip) | refine AK.retQ Try.hX hf rfl rfl ?_ | refine AK.region Try.mixed rfl ?_ | refine AOps.done ?_ | refine AOps.runS Try.hX kn rfl ?_ | refine AOps.callq kn rfl rfl rfl rfl (h0) ?_ | refine AOps.callq kn rfl rfl rfl rfl (h1) ?_ | refine AOps.box kn rfl rfl rfl rfl rfl rfl ?_ | refine AOps.alloc Try.hX kn rfl rfl rfl rfl rfl rfl rfl ?_ | refine AOps.store Try.hX kn rfl rfl rfl rfl rfl rfl rfl rfl rfl rfl rfl ?_ | refine AOps.buildSlice Try.hX kn rfl rfl rfl rfl rfl rfl rfl rfl rfl rfl rfl rfl ?_ | refine AOps.append Try.hX kn rfl rfl rfl rfl rfl rfl rfl rfl rfl rfl rfl rfl rfl rfl rfl rfl rfl rfl rfl rfl rfl ?_ ?_ | refine AOps.toStr Try.hX kn rfl rfl rfl rfl rfl rfl rfl rfl rfl rfl rfl (by first | exact rfl | exact byte1 _) rfl ?_ | refine AOps.buildArr Try.hX kn rfl rfl rfl rfl rfl rfl rfl rfl ?_ | refine AOps.indexArr Try.hX kn rfl rfl rfl rfl rfl rfl rfl rfl rfl rfl rfl rfl ?_ | refine AOps.runP1 Try.hX kn rfl rfl ?_ | (refine AOps.splitT rfl rfl rfl asm (fun h => ?_) <;> (fail_if_success (cases h; done)) <;> rw [h]) | (refine AOps.splitF rfl rfl rfl asm (fun h => ?_) <;> (fail_if_success (cases h; done)) <;> rw [h]) | (refine AOps.split rfl rfl rfl (fun h => ?_) (fun h => ?_) <;> (fail_if_success (cases h; done)) <;> rw [h]) | refine AOps.drawn (by kernel_rfl) ?_)
      all_goals
        show (_ : CV) = _
        clear hf hin h0 h1
        simp_all
    by_cases c : k = 6
    · subst c
      rw [rb6]
      have h0 := bare_calls (.mk 6 n a s args types code) false false true 0 0 false
      generalize bareB (.mk 6 n a s args types code) false false true 0 0 false = B at h0
      refine QCalls.of Try.func114 rfl (fun args w => Try.call114 args w) (Nat.le_of_ble_eq_true rfl) [(0, .c (encTy (.mk 6 ts))), (1, .c (encVl (.mk 6 n a s args types code)))] rfl fun β hβ => ?_; have hf := Try.func114
      repeat' (first | refine AK.runP Try.hX Try.mixed 300 rfl ?_ | refine AK.condTe rfl asm ?_ | refine AK.condFe rfl asm ?_ | (refine AK.condS rfl (fun h => ?_) (fun h => ?_) <;> first | (cases h; done) | rw [h] | skip) | refine AK.retQ Try.hX hf rfl rfl ?_ | refine AK.region Try.mixed rfl ?_ | refine AOps.done ?_ | refine AOps.runS Try.hX kn rfl ?_ | refine AOps.callq kn rfl rfl rfl rfl (h0) ?_ | refine AOps.box kn rfl rfl rfl rfl rfl rfl ?_ | refine AOps.alloc Try.hX kn rfl rfl rfl rfl rfl rfl rfl ?_ | refine AOps.store Try.hX kn rfl rfl rfl rfl rfl rfl rfl rfl rfl rfl rfl ?_ | refine AOps.buildSlice Try.hX kn rfl rfl rfl rfl rfl rfl rfl rfl rfl rfl rfl rfl ?_ | refine AOps.append Try.hX kn rfl rfl rfl rfl rfl rfl rfl rfl rfl rfl rfl rfl rfl rfl rfl rfl rfl rfl rfl rfl rfl ?_ ?_ | refine AOps.toStr Try.hX kn rfl rfl rfl rfl rfl rfl rfl rfl rfl rfl rfl (by first | exact rfl | exact byte1 _) rfl ?_ | refine AOps.buildArr Try.hX kn rfl rfl rfl rfl rfl rfl rfl rfl ?_ | refine AOps.indexArr Try.hX kn rfl rfl rfl rfl rfl rfl rfl rfl rfl rfl rfl rfl ?_ | refine AOps.runP1 Try.hX kn rfl rfl ?_ | (refine AOps.splitT rfl rfl rfl asm (fun h => ?_) <;> (fail_if_success (cases h; done)) <;> rw [h]) | (refine AOps.splitF rfl rfl rfl asm (fun h => ?_) <;> (fail_if_success (cases h; done)) <;> rw [h]) | (refine AOps.split rfl rfl rfl (fun h => ?_) (fun h => ?_) <;> (fail_if_success (cases h; done)) <;> rw [h]) | refine AOps.drawn (by kernel_rfl) ?_)
      all_goals
        show (_ : CV) = _
        clear hf hin h0 
        simp_all
    by_cases c : k = 7
    · subst c
      rw [rb7]
      have h0 := bare_calls (.mk 7 n a s args types code) true false false 0 0 false
      generalize bareB (.mk 7 n a s args types code) true false false 0 0 false = B at h0
      have h1 := isAddress_calls n
      refine QCalls.of Try.func114 rfl (fun args w => Try.call114 args w) (Nat.le_of_ble_eq_true rfl) [(0, .c (encTy (.mk 7 ts))), (1, .c (encVl (.mk 7 n a s args types code)))] rfl fun β hβ => ?_; have hf := Try.func114
      repeat' (first | refine AK.runP Try.hX Try.mixed 300 rfl ?_ | refine AK.condTe rfl asm ?_ | refine AK.condFe rfl asm ?_ | (refine AK.condS rfl (fun h => ?_) (fun h => ?_) <;> first | (cases h; done) | rw [h] | skip) | refine AK.retQ Try.hX hf rfl rfl ?_ | refine AK.region Try.mixed rfl ?_ | refine AOps.done ?_ | refine AOps.runS Try.hX kn rfl ?_ | refine AOps.callq kn rfl rfl rfl rfl (h0) ?_ | refine AOps.callq kn rfl rfl rfl rfl (h1) ?_ | refine AOps.box kn rfl rfl rfl rfl rfl rfl ?_ | refine AOps.alloc Try.hX kn rfl rfl rfl rfl rfl rfl rfl ?_ | refine AOps.store Try.hX kn rfl rfl rfl rfl rfl rfl rfl rfl rfl rfl rfl ?_ | refine AOps.buildSlice Try.hX kn rfl rfl rfl rfl rfl rfl rfl rfl rfl rfl rfl rfl ?_ | refine AOps.append Try.hX kn rfl rfl rfl rfl rfl rfl rfl rfl rfl rfl rfl rfl rfl rfl rfl rfl rfl rfl rfl rfl rfl ?_ ?_ | refine AOps.toStr Try.hX kn rfl rfl rfl rfl rfl rfl rfl rfl rfl rfl rfl (by first | exact rfl | exact byte1 _) rfl ?_ | refine AOps.buildArr Try.hX kn rfl rfl rfl rfl rfl rfl rfl rfl ?_ | refine AOps.indexArr Try.hX kn rfl rfl rfl rfl rfl rfl rfl rfl rfl rfl rfl rfl ?_ | refine AOps.runP1 Try.hX kn rfl rfl ?_ | (refine AOps.splitT rfl rfl rfl asm (fun h => ?_) <;> (fail_if_success (cases h; done)) <;> rw [h]) | (refine AOps.splitF rfl rfl rfl asm (fun h => ?_) <;> (fail_if_success (cases h; done)) <;> rw [h]) | (refine AOps.split rfl rfl rfl (fun h => ?_) (fun h => ?_) <;> (fail_if_success (cases h; done)) <;> rw [h]) | refine AOps.drawn (by kernel_rfl) ?_)
      all_goals
        show (_ : CV) = _
        clear hf hin h0 h1
        simp_all
    by_cases c : k = 8
    · subst c
      rw [rb8]
      have h0 := bare_calls (.mk 8 n a s args types code) true true false 1 1 false
      have h1 := natural_calls n
      have h2 := isAddress_calls a
      cases hB : bareB (.mk 8 n a s args types code) true true false 1 1 false with
      | false =>
        rw [hB] at h0
        refine QCalls.of Try.func114 rfl (fun args w => Try.call114 args w) (Nat.le_of_ble_eq_true rfl) [(0, .c (encTy (.mk 8 ts))), (1, .c (encVl (.mk 8 n a s args types code)))] rfl fun β hβ => ?_; have hf := Try.func114
        exact dq
      | true =>
        rw [hB] at h0
        have hsh : args.length = 1 ∧ types.length = 1 := by
          unfold bareB at hB; simp at hB; omega
        obtain ⟨x, rfl⟩ := len1 hsh.1
        obtain ⟨u, rfl⟩ := tlen1 hsh.2
        clear hB
        have hus : tySize u ≤ 1048577 := by have := tysSize_mem (l := [u]) (x := u) (by simp); omega
        have h3 := rHas_of u x hus (fun hg => hin x (by simp) u (tGood_bad hg) (tGood_keys hg) hus)
        rw [show (tGood ([u].getD 0 ty0) && vHasAll [x] ([u].getD 0 ty0)) = tHas u x from by unfold tHas vHasAll; unfold vHasAll; simp]
        have g1 : [u][0]? = some u := rfl
        have g3 : [x][0]? = some x := rfl
        generalize tHas u x = b1 at h3
        obtain ⟨U, us⟩ := u
        obtain ⟨x1, x2, x3, x4, x5, x6, x7⟩ := x
        refine QCalls.of Try.func114 rfl (fun args w => Try.call114 args w) (Nat.le_of_ble_eq_true rfl) [(0, .c (encTy (.mk 8 ts))), (1, .c (encVl (.mk 8 n a s [.mk x1 x2 x3 x4 x5 x6 x7] [.mk U us] code)))] rfl fun β hβ => ?_; have hf := Try.func114
        repeat' (first | refine AK.runP Try.hX Try.mixed 300 rfl ?_ | refine AK.condTe rfl asm ?_ | refine AK.condFe rfl asm ?_ | (refine AK.condS rfl (fun h => ?_) (fun h => ?_) <;> first | (cases h; done) | rw [h] | skip) | refine AK.retQ Try.hX hf rfl rfl ?_ | refine AK.region Try.mixed rfl ?_ | refine AOps.done ?_ | refine AOps.runS Try.hX kn rfl ?_ | refine AOps.callq kn rfl rfl rfl rfl (h0) ?_ | refine AOps.callq kn rfl rfl rfl rfl (h1) ?_ | refine AOps.callq kn rfl rfl rfl rfl (h2) ?_ | refine AOps.callq kn rfl rfl rfl rfl (h3) ?_ | refine AOps.index Try.hX rfl rfl rfl rfl rfl rfl rfl rfl rfl rfl (0) rfl (tys_at g1) rfl ?_ | refine AOps.index Try.hX rfl rfl rfl rfl rfl rfl rfl rfl rfl rfl (0) rfl (vls_at g3) rfl ?_ | refine AOps.box kn rfl rfl rfl rfl rfl rfl ?_ | refine AOps.alloc Try.hX kn rfl rfl rfl rfl rfl rfl rfl ?_ | refine AOps.store Try.hX kn rfl rfl rfl rfl rfl rfl rfl rfl rfl rfl rfl ?_ | refine AOps.buildSlice Try.hX kn rfl rfl rfl rfl rfl rfl rfl rfl rfl rfl rfl rfl ?_ | refine AOps.append Try.hX kn rfl rfl rfl rfl rfl rfl rfl rfl rfl rfl rfl rfl rfl rfl rfl rfl rfl rfl rfl rfl rfl ?_ ?_ | refine AOps.toStr Try.hX kn rfl rfl rfl rfl rfl rfl rfl rfl rfl rfl rfl (by first | exact rfl | exact byte1 _) rfl ?_ | refine AOps.buildArr Try.hX kn rfl rfl rfl rfl rfl rfl rfl rfl ?_ | refine AOps.indexArr Try.hX kn rfl rfl rfl rfl rfl rfl rfl rfl rfl rfl rfl rfl ?_ | refine AOps.runP1 Try.hX kn rfl rfl ?_ | (refine AOps.splitT rfl rfl rfl asm (fun h => ?_) <;> (fail_if_success (cases h; done)) <;> rw [h]) | (refine AOps.splitF rfl rfl rfl asm (fun h => ?_) <;> (fail_if_success (cases h; done)) <;> rw [h]) | (refine AOps.split rfl rfl rfl (fun h => ?_) (fun h => ?_) <;> (fail_if_success (cases h; done)) <;> rw [h]) | refine AOps.drawn (by kernel_rfl) ?_)
        all_goals
          show (_ : CV) = _
          clear hf hin h0 h1 h2 h3
          refine congrArg CV.bool ?_
          cases b1 <;> (try simp_all) <;> (try omega)
    by_cases c : k = 9
    · subst c
      rw [rb9]
      have h0 := bare_calls (.mk 9 n a s args types code) false false false args.length 0 false
      rw [← encVls_length] at h0 ⊢
      cases hB : bareB (.mk 9 n a s args types code) false false false (encVls args).length 0 false with
      | false =>
        rw [hB] at h0
        refine QCalls.of Try.func114 rfl (fun args w => Try.call114 args w) (Nat.le_of_ble_eq_true rfl) [(0, .c (encTy (.mk 9 ts))), (1, .c (encVl (.mk 9 n a s args types code)))] rfl fun β hβ => ?_; have hf := Try.func114
        exact dq
      | true =>
        rw [hB] at h0
        by_cases hl : (((encVls args).length : Nat) : Int) ≤ 1
        rotate_left
        · rw [decide_eq_false hl]
          have e3 : decide ((((encVls args).length : Nat) : Int) > 1) = true := decide_eq_true (by omega)
          refine QCalls.of Try.func114 rfl (fun args w => Try.call114 args w) (Nat.le_of_ble_eq_true rfl) [(0, .c (encTy (.mk 9 ts))), (1, .c (encVl (.mk 9 n a s args types code)))] rfl fun β hβ => ?_; have hf := Try.func114
          exact dq
        rw [decide_eq_true hl]
        have e3 : decide ((((encVls args).length : Nat) : Int) > 1) = false := decide_eq_false (by omega)
        have e4 : decide ((((encVls args).length : Nat) : Int) > 24) = false := decide_eq_false (by omega)
        obtain ⟨u, rfl⟩ := tlen1 (show ts.length = 1 by have : arity 9 = 1 := by decide
                                                        omega)
        rw [show (true && (true && vHasAll args (tyArg (.mk 9 [u]) 0))) = vHasAll args u from rfl]
        have hu : tBad u = false := tBads_mem hbs (by simp)
        have huk : tKeys u = true := tsKeys_mem hks (by simp)
        have hus : tySize u ≤ 1048577 := by have := tysSize_mem (l := [u]) (x := u) (by simp); omega
        have g1 : [u][0]? = some u := rfl
        obtain ⟨U, us⟩ := u
        refine QCalls.of Try.func114 rfl (fun args w => Try.call114 args w) (Nat.le_of_ble_eq_true rfl) [(0, .c (encTy (.mk 9 [.mk U us]))), (1, .c (encVl (.mk 9 n a s args types code)))] rfl fun β hβ => ?_; have hf := Try.func114
        repeat' (first | refine AK.runP Try.hX Try.mixed 300 rfl ?_ | refine AK.condTe rfl asm ?_ | refine AK.condFe rfl asm ?_ | (refine AK.condS rfl (fun h => ?_) (fun h => ?_) <;> first | (cases h; done) | rw [h] | skip) | refine AK.retQ Try.hX hf rfl rfl ?_ | refine AK.region Try.mixed rfl ?_ | refine AOps.done ?_ | refine AOps.runS Try.hX kn rfl ?_ | refine AOps.callq kn rfl rfl rfl rfl (h0) ?_ | refine AOps.box kn rfl rfl rfl rfl rfl rfl ?_ | refine AOps.alloc Try.hX kn rfl rfl rfl rfl rfl rfl rfl ?_ | refine AOps.store Try.hX kn rfl rfl rfl rfl rfl rfl rfl rfl rfl rfl rfl ?_ | refine AOps.buildSlice Try.hX kn rfl rfl rfl rfl rfl rfl rfl rfl rfl rfl rfl rfl ?_ | refine AOps.append Try.hX kn rfl rfl rfl rfl rfl rfl rfl rfl rfl rfl rfl rfl rfl rfl rfl rfl rfl rfl rfl rfl rfl ?_ ?_ | refine AOps.toStr Try.hX kn rfl rfl rfl rfl rfl rfl rfl rfl rfl rfl rfl (by first | exact rfl | exact byte1 _) rfl ?_ | refine AOps.buildArr Try.hX kn rfl rfl rfl rfl rfl rfl rfl rfl ?_ | refine AOps.indexArr Try.hX kn rfl rfl rfl rfl rfl rfl rfl rfl rfl rfl rfl rfl ?_ | refine AOps.runP1 Try.hX kn rfl rfl ?_ | (refine AOps.splitT rfl rfl rfl asm (fun h => ?_) <;> (fail_if_success (cases h; done)) <;> rw [h]) | (refine AOps.splitF rfl rfl rfl asm (fun h => ?_) <;> (fail_if_success (cases h; done)) <;> rw [h]) | (refine AOps.split rfl rfl rfl (fun h => ?_) (fun h => ?_) <;> (fail_if_success (cases h; done)) <;> rw [h]) | refine AOps.drawn (by kernel_rfl) ?_)
        refine AK.loopE (α := Nat) (fun i => i ≤ args.length ∧ vHasAll args (.mk U us) = vHasAll (args.drop i) (.mk U us)) (fun i => args.length - i)
          (fun i => [(124, .c (.int .i64 i)), (123, .c (.int .i64 (encVls args).length)), (122, .c (.sl 7 (encVls args))), (2, .ptr 2 0)])
          (fun _ => [(2, [.c (.int .i64 9), .c (.sl 2 (encTys [.mk U us]))])]) (fun _ => []) [2] 0
          ⟨by omega, rfl⟩ ⟨.inl rfl, .inl rfl, .inl rfl, .inl rfl, trivial⟩ ⟨rfl, trivial⟩ trivial rfl rfl rfl ?_
        rintro i ⟨hi, hinv⟩ ih
        rcases get_or args i hi with ⟨x, hx, hm⟩ | he
        · have hcc := vls_lt hx
          have hq := hin x hm (.mk U us) hu huk hus
          rw [drop_at hx, vHasAll_cons] at hinv
          generalize vHas x (.mk U us) = b at hq hinv
          obtain ⟨x1, x2, x3, x4, x5, x6, x7⟩ := x
          cases b with
          | false =>
            rw [hinv, Bool.false_and]
            clear ih hinv
            have tsr1 := vls_at hx
            have tsr2 := tys_at g1
            exact dq
          | true =>
            rw [Bool.true_and] at hinv
            repeat' (first | refine AK.runP Try.hX Try.mixed 300 rfl ?_ | refine AK.condTe rfl asm ?_ | refine AK.condFe rfl asm ?_ | (refine AK.condS rfl (fun h => ?_) (fun h => ?_) <;> first | (cases h; done) | rw [h] | skip) | refine AK.retQ Try.hX hf rfl rfl ?_ | refine AK.region Try.mixed rfl ?_ | refine AOps.done ?_ | refine AOps.runS Try.hX kn rfl ?_ | refine AOps.index Try.hX rfl rfl rfl rfl rfl rfl rfl rfl rfl rfl (i) rfl (vls_at hx) rfl ?_ | refine AOps.index Try.hX rfl rfl rfl rfl rfl rfl rfl rfl rfl rfl (0) rfl (tys_at g1) rfl ?_ | refine AOps.callq kn rfl rfl rfl rfl (hq) ?_ | refine AOps.box kn rfl rfl rfl rfl rfl rfl ?_ | refine AOps.alloc Try.hX kn rfl rfl rfl rfl rfl rfl rfl ?_ | refine AOps.store Try.hX kn rfl rfl rfl rfl rfl rfl rfl rfl rfl rfl rfl ?_ | refine AOps.buildSlice Try.hX kn rfl rfl rfl rfl rfl rfl rfl rfl rfl rfl rfl rfl ?_ | refine AOps.append Try.hX kn rfl rfl rfl rfl rfl rfl rfl rfl rfl rfl rfl rfl rfl rfl rfl rfl rfl rfl rfl rfl rfl ?_ ?_ | refine AOps.toStr Try.hX kn rfl rfl rfl rfl rfl rfl rfl rfl rfl rfl rfl (by first | exact rfl | exact byte1 _) rfl ?_ | refine AOps.buildArr Try.hX kn rfl rfl rfl rfl rfl rfl rfl rfl ?_ | refine AOps.indexArr Try.hX kn rfl rfl rfl rfl rfl rfl rfl rfl rfl rfl rfl rfl ?_ | refine AOps.runP1 Try.hX kn rfl rfl ?_ | (refine AOps.splitT rfl rfl rfl asm (fun h => ?_) <;> (fail_if_success (cases h; done)) <;> rw [h]) | (refine AOps.splitF rfl rfl rfl asm (fun h => ?_) <;> (fail_if_success (cases h; done)) <;> rw [h]) | (refine AOps.split rfl rfl rfl (fun h => ?_) (fun h => ?_) <;> (fail_if_success (cases h; done)) <;> rw [h]) | refine AOps.drawn (by kernel_rfl) ?_)
            exact AK.again (ih (i + 1) ⟨lt_of_get hx, hinv⟩ (by have := lt_of_get hx; omega)) ⟨.inl (succ64 (by have := lt_of_get hx; omega)), .inl rfl, .inl rfl, .inl rfl, trivial⟩ ⟨rfl, trivial⟩ trivial rfl rfl rfl
        · have hcc := vls_end he
          have h9 : vHasAll args (.mk U us) = true := by rw [hinv, he, List.drop_length]; unfold vHasAll; rfl
          rw [h9]
          clear ih hinv h9
          exact dq
    by_cases c : k = 10
    · subst c
      rw [rb10]
      have h0 := bare_calls (.mk 10 n a s args types code) false false false args.length 0 false
      rw [← encVls_length] at h0 ⊢
      cases hB : bareB (.mk 10 n a s args types code) false false false (encVls args).length 0 false with
      | false =>
        rw [hB] at h0
        refine QCalls.of Try.func114 rfl (fun args w => Try.call114 args w) (Nat.le_of_ble_eq_true rfl) [(0, .c (encTy (.mk 10 ts))), (1, .c (encVl (.mk 10 n a s args types code)))] rfl fun β hβ => ?_; have hf := Try.func114
        exact dq
      | true =>
        rw [hB] at h0
        by_cases hl : (((encVls args).length : Nat) : Int) ≤ 24
        rotate_left
        · rw [decide_eq_false hl]
          have e3 : decide ((((encVls args).length : Nat) : Int) > 24) = true := decide_eq_true (by omega)
          refine QCalls.of Try.func114 rfl (fun args w => Try.call114 args w) (Nat.le_of_ble_eq_true rfl) [(0, .c (encTy (.mk 10 ts))), (1, .c (encVl (.mk 10 n a s args types code)))] rfl fun β hβ => ?_; have hf := Try.func114
          exact dq
        rw [decide_eq_true hl]
        have e3 : decide ((((encVls args).length : Nat) : Int) > 24) = false := decide_eq_false (by omega)
        obtain ⟨u, rfl⟩ := tlen1 (show ts.length = 1 by have : arity 10 = 1 := by decide
                                                        omega)
        rw [show (true && (true && vHasAll args (tyArg (.mk 10 [u]) 0))) = vHasAll args u from rfl]
        have hu : tBad u = false := tBads_mem hbs (by simp)
        have huk : tKeys u = true := tsKeys_mem hks (by simp)
        have hus : tySize u ≤ 1048577 := by have := tysSize_mem (l := [u]) (x := u) (by simp); omega
        have g1 : [u][0]? = some u := rfl
        obtain ⟨U, us⟩ := u
        refine QCalls.of Try.func114 rfl (fun args w => Try.call114 args w) (Nat.le_of_ble_eq_true rfl) [(0, .c (encTy (.mk 10 [.mk U us]))), (1, .c (encVl (.mk 10 n a s args types code)))] rfl fun β hβ => ?_; have hf := Try.func114
        repeat' (first | refine AK.runP Try.hX Try.mixed 300 rfl ?_ | refine AK.condTe rfl asm ?_ | refine AK.condFe rfl asm ?_ | (refine AK.condS rfl (fun h => ?_) (fun h => ?_) <;> first | (cases h; done) | rw [h] | skip) | refine AK.retQ Try.hX hf rfl rfl ?_ | refine AK.region Try.mixed rfl ?_ | refine AOps.done ?_ | refine AOps.runS Try.hX kn rfl ?_ | refine AOps.callq kn rfl rfl rfl rfl (h0) ?_ | refine AOps.box kn rfl rfl rfl rfl rfl rfl ?_ | refine AOps.alloc Try.hX kn rfl rfl rfl rfl rfl rfl rfl ?_ | refine AOps.store Try.hX kn rfl rfl rfl rfl rfl rfl rfl rfl rfl rfl rfl ?_ | refine AOps.buildSlice Try.hX kn rfl rfl rfl rfl rfl rfl rfl rfl rfl rfl rfl rfl ?_ | refine AOps.append Try.hX kn rfl rfl rfl rfl rfl rfl rfl rfl rfl rfl rfl rfl rfl rfl rfl rfl rfl rfl rfl rfl rfl ?_ ?_ | refine AOps.toStr Try.hX kn rfl rfl rfl rfl rfl rfl rfl rfl rfl rfl rfl (by first | exact rfl | exact byte1 _) rfl ?_ | refine AOps.buildArr Try.hX kn rfl rfl rfl rfl rfl rfl rfl rfl ?_ | refine AOps.indexArr Try.hX kn rfl rfl rfl rfl rfl rfl rfl rfl rfl rfl rfl rfl ?_ | refine AOps.runP1 Try.hX kn rfl rfl ?_ | (refine AOps.splitT rfl rfl rfl asm (fun h => ?_) <;> (fail_if_success (cases h; done)) <;> rw [h]) | (refine AOps.splitF rfl rfl rfl asm (fun h => ?_) <;> (fail_if_success (cases h; done)) <;> rw [h]) | (refine AOps.split rfl rfl rfl (fun h => ?_) (fun h => ?_) <;> (fail_if_success (cases h; done)) <;> rw [h]) | refine AOps.drawn (by kernel_rfl) ?_)
        refine AK.loopE (α := Nat) (fun i => i ≤ args.length ∧ vHasAll args (.mk U us) = vHasAll (args.drop i) (.mk U us)) (fun i => args.length - i)
          (fun i => [(124, .c (.int .i64 i)), (123, .c (.int .i64 (encVls args).length)), (122, .c (.sl 7 (encVls args))), (2, .ptr 2 0)])
          (fun _ => [(2, [.c (.int .i64 10), .c (.sl 2 (encTys [.mk U us]))])]) (fun _ => []) [2] 0
          ⟨by omega, rfl⟩ ⟨.inl rfl, .inl rfl, .inl rfl, .inl rfl, trivial⟩ ⟨rfl, trivial⟩ trivial rfl rfl rfl ?_
        rintro i ⟨hi, hinv⟩ ih
        rcases get_or args i hi with ⟨x, hx, hm⟩ | he
        · have hcc := vls_lt hx
          have hq := hin x hm (.mk U us) hu huk hus
          rw [drop_at hx, vHasAll_cons] at hinv
          generalize vHas x (.mk U us) = b at hq hinv
          obtain ⟨x1, x2, x3, x4, x5, x6, x7⟩ := x
          cases b with
          | false =>
            rw [hinv, Bool.false_and]
            clear ih hinv
            have tsr3 := vls_at hx
            have tsr4 := tys_at g1
            exact dq
          | true =>
            rw [Bool.true_and] at hinv
            repeat' (first | refine AK.runP Try.hX Try.mixed 300 rfl ?_ | refine AK.condTe rfl asm ?_ | refine AK.condFe rfl asm ?_ | (refine AK.condS rfl (fun h => ?_) (fun h => ?_) <;> first | (cases h; done) | rw [h] | skip) | refine AK.retQ Try.hX hf rfl rfl ?_ | refine AK.region Try.mixed rfl ?_ | refine AOps.done ?_ | refine AOps.runS Try.hX kn rfl ?_ | refine AOps.index Try.hX rfl rfl rfl rfl rfl rfl rfl rfl rfl rfl (i) rfl (vls_at hx) rfl ?_ | refine AOps.index Try.hX rfl rfl rfl rfl rfl rfl rfl rfl rfl rfl (0) rfl (tys_at g1) rfl ?_ | refine AOps.callq kn rfl rfl rfl rfl (hq) ?_ | refine AOps.box kn rfl rfl rfl rfl rfl rfl ?_ | refine AOps.alloc Try.hX kn rfl rfl rfl rfl rfl rfl rfl ?_ | refine AOps.store Try.hX kn rfl rfl rfl rfl rfl rfl rfl rfl rfl rfl rfl ?_ | refine AOps.buildSlice Try.hX kn rfl rfl rfl rfl rfl rfl rfl rfl rfl rfl rfl rfl ?_ | refine AOps.append Try.hX kn rfl rfl rfl rfl rfl rfl rfl rfl rfl rfl rfl rfl rfl rfl rfl rfl rfl rfl rfl rfl rfl ?_ ?_ | refine AOps.toStr Try.hX kn rfl rfl rfl rfl rfl rfl rfl rfl rfl rfl rfl (by first | exact rfl | exact byte1 _) rfl ?_ | refine AOps.buildArr Try.hX kn rfl rfl rfl rfl rfl rfl rfl rfl ?_ | refine AOps.indexArr Try.hX kn rfl rfl rfl rfl rfl rfl rfl rfl rfl rfl rfl rfl ?_ | refine AOps.runP1 Try.hX kn rfl rfl ?_ | (refine AOps.splitT rfl rfl rfl asm (fun h => ?_) <;> (fail_if_success (cases h; done)) <;> rw [h]) | (refine AOps.splitF rfl rfl rfl asm (fun h => ?_) <;> (fail_if_success (cases h; done)) <;> rw [h]) | (refine AOps.split rfl rfl rfl (fun h => ?_) (fun h => ?_) <;> (fail_if_success (cases h; done)) <;> rw [h]) | refine AOps.drawn (by kernel_rfl) ?_)
            exact AK.again (ih (i + 1) ⟨lt_of_get hx, hinv⟩ (by have := lt_of_get hx; omega)) ⟨.inl (succ64 (by have := lt_of_get hx; omega)), .inl rfl, .inl rfl, .inl rfl, trivial⟩ ⟨rfl, trivial⟩ trivial rfl rfl rfl
        · have hcc := vls_end he
          have h9 : vHasAll args (.mk U us) = true := by rw [hinv, he, List.drop_length]; unfold vHasAll; rfl
          rw [h9]
          clear ih hinv h9
          exact dq
    by_cases c : k = 11
    · subst c
      rw [rb11]
      have h0 := bare_calls (.mk 11 n a s args types code) false false false 2 0 false
      cases hB : bareB (.mk 11 n a s args types code) false false false 2 0 false with
      | false =>
        rw [hB] at h0
        refine QCalls.of Try.func114 rfl (fun args w => Try.call114 args w) (Nat.le_of_ble_eq_true rfl) [(0, .c (encTy (.mk 11 ts))), (1, .c (encVl (.mk 11 n a s args types code)))] rfl fun β hβ => ?_; have hf := Try.func114
        exact dq
      | true =>
        rw [hB] at h0
        have hsh : args.length = 2 := by unfold bareB at hB; simp at hB; omega
        obtain ⟨x, y, rfl⟩ := len2 hsh
        obtain ⟨u, u', rfl⟩ := tlen2 (show ts.length = 2 by have : arity 11 = 2 := by decide
                                                            omega)
        clear hB
        have hu : tBad u = false := tBads_mem hbs (by simp)
        have hu' : tBad u' = false := tBads_mem hbs (by simp)
        have huk : tKeys u = true := tsKeys_mem hks (by simp)
        have huk' : tKeys u' = true := tsKeys_mem hks (by simp)
        have hus : tySize u ≤ 1048577 := by have := tysSize_mem (l := [u, u']) (x := u) (by simp); omega
        have hus' : tySize u' ≤ 1048577 := by have := tysSize_mem (l := [u, u']) (x := u') (by simp); omega
        have h1 := hin x (by simp) u hu huk hus
        have h2 := hin y (by simp) u' hu' huk' hus'
        have g1 : [u, u'][0]? = some u := rfl
        have g2 : [u, u'][1]? = some u' := rfl
        have g3 : [x, y][0]? = some x := rfl
        have g4 : [x, y][1]? = some y := rfl
        rw [show (true && vHasRow [x, y] [u, u']) = (vHas x u && vHas y u') from by unfold vHasRow; unfold vHasRow; unfold vHasRow; simp]
        generalize vHas x u = b1 at h1
        generalize vHas y u' = b2 at h2
        obtain ⟨U, us⟩ := u
        obtain ⟨U', us'⟩ := u'
        obtain ⟨x1, x2, x3, x4, x5, x6, x7⟩ := x
        obtain ⟨y1, y2, y3, y4, y5, y6, y7⟩ := y
        refine QCalls.of Try.func114 rfl (fun args w => Try.call114 args w) (Nat.le_of_ble_eq_true rfl) [(0, .c (encTy (.mk 11 [.mk U us, .mk U' us']))), (1, .c (encVl (.mk 11 n a s [.mk x1 x2 x3 x4 x5 x6 x7, .mk y1 y2 y3 y4 y5 y6 y7] types code)))] rfl fun β hβ => ?_; have hf := Try.func114
        repeat' (first | refine AK.runP Try.hX Try.mixed 300 rfl ?_ | refine AK.condTe rfl asm ?_ | refine AK.condFe rfl asm ?_ | (refine AK.condS rfl (fun h => ?_) (fun h => ?_) <;> first | (cases h; done) | rw [h] | skip) | refine AK.retQ Try.hX hf rfl rfl ?_ | refine AK.region Try.mixed rfl ?_ | refine AOps.done ?_ | refine AOps.runS Try.hX kn rfl ?_ | refine AOps.callq kn rfl rfl rfl rfl (h0) ?_ | refine AOps.callq kn rfl rfl rfl rfl (h1) ?_ | refine AOps.callq kn rfl rfl rfl rfl (h2) ?_ | refine AOps.index Try.hX rfl rfl rfl rfl rfl rfl rfl rfl rfl rfl (0) rfl (tys_at g1) rfl ?_ | refine AOps.index Try.hX rfl rfl rfl rfl rfl rfl rfl rfl rfl rfl (1) rfl (tys_at g2) rfl ?_ | refine AOps.index Try.hX rfl rfl rfl rfl rfl rfl rfl rfl rfl rfl (0) rfl (vls_at g3) rfl ?_ | refine AOps.index Try.hX rfl rfl rfl rfl rfl rfl rfl rfl rfl rfl (1) rfl (vls_at g4) rfl ?_ | refine AOps.box kn rfl rfl rfl rfl rfl rfl ?_ | refine AOps.alloc Try.hX kn rfl rfl rfl rfl rfl rfl rfl ?_ | refine AOps.store Try.hX kn rfl rfl rfl rfl rfl rfl rfl rfl rfl rfl rfl ?_ | refine AOps.buildSlice Try.hX kn rfl rfl rfl rfl rfl rfl rfl rfl rfl rfl rfl rfl ?_ | refine AOps.append Try.hX kn rfl rfl rfl rfl rfl rfl rfl rfl rfl rfl rfl rfl rfl rfl rfl rfl rfl rfl rfl rfl rfl ?_ ?_ | refine AOps.toStr Try.hX kn rfl rfl rfl rfl rfl rfl rfl rfl rfl rfl rfl (by first | exact rfl | exact byte1 _) rfl ?_ | refine AOps.buildArr Try.hX kn rfl rfl rfl rfl rfl rfl rfl rfl ?_ | refine AOps.indexArr Try.hX kn rfl rfl rfl rfl rfl rfl rfl rfl rfl rfl rfl rfl ?_ | refine AOps.runP1 Try.hX kn rfl rfl ?_ | (refine AOps.splitT rfl rfl rfl asm (fun h => ?_) <;> (fail_if_success (cases h; done)) <;> rw [h]) | (refine AOps.splitF rfl rfl rfl asm (fun h => ?_) <;> (fail_if_success (cases h; done)) <;> rw [h]) | (refine AOps.split rfl rfl rfl (fun h => ?_) (fun h => ?_) <;> (fail_if_success (cases h; done)) <;> rw [h]) | refine AOps.drawn (by kernel_rfl) ?_)
        all_goals
          show (_ : CV) = _
          clear hf hin h0 h1 h2
          simp_all
    by_cases c : k = 12
    · subst c
      rw [rb12]
      have h0 := bare_calls (.mk 12 n a s args types code) true false false 1 0 false
      cases hB : bareB (.mk 12 n a s args types code) true false false 1 0 false with
      | false =>
        rw [hB] at h0
        refine QCalls.of Try.func114 rfl (fun args w => Try.call114 args w) (Nat.le_of_ble_eq_true rfl) [(0, .c (encTy (.mk 12 ts))), (1, .c (encVl (.mk 12 n a s args types code)))] rfl fun β hβ => ?_; have hf := Try.func114
        exact dq
      | true =>
        rw [hB] at h0
        have hsh : args.length = 1 := by unfold bareB at hB; simp at hB; omega
        obtain ⟨x, rfl⟩ := len1 hsh
        obtain ⟨u, u', rfl⟩ := tlen2 (show ts.length = 2 by have : arity 12 = 2 := by decide
                                                            omega)
        clear hB
        have hu : tBad u = false := tBads_mem hbs (by simp)
        have hu' : tBad u' = false := tBads_mem hbs (by simp)
        have huk : tKeys u = true := tsKeys_mem hks (by simp)
        have huk' : tKeys u' = true := tsKeys_mem hks (by simp)
        have hus : tySize u ≤ 1048577 := by have := tysSize_mem (l := [u, u']) (x := u) (by simp); omega
        have hus' : tySize u' ≤ 1048577 := by have := tysSize_mem (l := [u, u']) (x := u') (by simp); omega
        have h1 := hin x (by simp) u hu huk hus
        have h2 := hin x (by simp) u' hu' huk' hus'
        have g1 : [u, u'][0]? = some u := rfl
        have g2 : [u, u'][1]? = some u' := rfl
        have g3 : [x][0]? = some x := rfl
        have ev : ∀ w, vHasAll [x] w = vHas x w := fun w => by unfold vHasAll; unfold vHasAll; simp
        rw [ev]
        clear ev
        by_cases n0 : n = 0
        · subst n0
          show QCalls _ _ _ _ (.bool (vHas x u))
          clear h2
          generalize vHas x u = b1 at h1
          obtain ⟨U, us⟩ := u
          obtain ⟨x1, x2, x3, x4, x5, x6, x7⟩ := x
          refine QCalls.of Try.func114 rfl (fun args w => Try.call114 args w) (Nat.le_of_ble_eq_true rfl) [(0, .c (encTy (.mk 12 [.mk U us, u']))), (1, .c (encVl (.mk 12 0 a s [.mk x1 x2 x3 x4 x5 x6 x7] types code)))] rfl fun β hβ => ?_; have hf := Try.func114
          have tsr5 := tys_at g1
          have tsr6 := vls_at g3
          exact dq
        by_cases n1 : n = 1
        · subst n1
          show QCalls _ _ _ _ (.bool (vHas x u'))
          clear h1
          generalize vHas x u' = b1 at h2
          obtain ⟨U, us⟩ := u'
          obtain ⟨x1, x2, x3, x4, x5, x6, x7⟩ := x
          refine QCalls.of Try.func114 rfl (fun args w => Try.call114 args w) (Nat.le_of_ble_eq_true rfl) [(0, .c (encTy (.mk 12 [u, .mk U us]))), (1, .c (encVl (.mk 12 1 a s [.mk x1 x2 x3 x4 x5 x6 x7] types code)))] rfl fun β hβ => ?_; have hf := Try.func114
          have tsr7 := tys_at g2
          have tsr8 := vls_at g3
          exact dq
        · have e5 : (n == 0) = false := by simpa using n0
          have e6 : (n == 1) = false := by simpa using n1
          rw [e5, e6]
          refine QCalls.of Try.func114 rfl (fun args w => Try.call114 args w) (Nat.le_of_ble_eq_true rfl) [(0, .c (encTy (.mk 12 [u, u']))), (1, .c (encVl (.mk 12 n a s [x] types code)))] rfl fun β hβ => ?_; have hf := Try.func114
          exact dq
    by_cases c : k = 13
    · subst c
      rw [rb13]
      have h0 := bare_calls (.mk 13 n a s args types code) false false false args.length 0 false
      rw [← mapB_none]
      rw [← encVls_length] at h0 ⊢
      cases hB : bareB (.mk 13 n a s args types code) false false false (encVls args).length 0 false with
      | false =>
        rw [hB] at h0
        refine QCalls.of Try.func114 rfl (fun args w => Try.call114 args w) (Nat.le_of_ble_eq_true rfl) [(0, .c (encTy (.mk 13 ts))), (1, .c (encVl (.mk 13 n a s args types code)))] rfl fun β hβ => ?_; have hf := Try.func114
        exact dq
      | true =>
      rw [hB] at h0
      by_cases hl : (((encVls args).length : Nat) : Int) ≤ 24
      rotate_left
      · rw [decide_eq_false hl]
        have e3 : decide ((((encVls args).length : Nat) : Int) > 24) = true := decide_eq_true (by omega)
        refine QCalls.of Try.func114 rfl (fun args w => Try.call114 args w) (Nat.le_of_ble_eq_true rfl) [(0, .c (encTy (.mk 13 ts))), (1, .c (encVl (.mk 13 n a s args types code)))] rfl fun β hβ => ?_; have hf := Try.func114
        exact dq
      rw [decide_eq_true hl, Bool.true_and, Bool.true_and]
      have e3 : decide ((((encVls args).length : Nat) : Int) > 24) = false := decide_eq_false (by omega)
      obtain ⟨u, u', rfl⟩ := tlen2 (show ts.length = 2 by have : arity 13 = 2 := by decide
                                                          omega)
      have hu : tBad u = false := tBads_mem hbs (by simp)
      have hcp : tComp u = true := by simp [tKeys, headComp] at hky; exact hky.1
      have hpb : tBad (.mk 11 [u, u']) = false := by
        simp only [tBad, Bool.or_eq_false_iff]; exact ⟨by show decide (arity 11 ≠ 2) = false; decide, hbs⟩
      have hpk : tKeys (.mk 11 [u, u']) = true := by simp only [tKeys, hks, Bool.and_true]; rw [if_neg (by decide)]
      have hps : tySize (.mk 11 [u, u']) ≤ 1048577 := by simp only [tySize]; omega
      refine QCalls.of Try.func114 rfl (fun args w => Try.call114 args w) (Nat.le_of_ble_eq_true rfl) [(0, .c (encTy (.mk 13 [u, u']))), (1, .c (encVl (.mk 13 n a s args types code)))] rfl fun β hβ => ?_; have hf := Try.func114
      repeat' (first | refine AK.runP Try.hX Try.mixed 300 rfl ?_ | refine AK.condTe rfl asm ?_ | refine AK.condFe rfl asm ?_ | (refine AK.condS rfl (fun h => ?_) (fun h => ?_) <;> first | (cases h; done) | rw [h] | skip) | refine AK.retQ Try.hX hf rfl rfl ?_ | refine AK.region Try.mixed rfl ?_ | refine AOps.done ?_ | refine AOps.runS Try.hX kn rfl ?_ | refine AOps.callq kn rfl rfl rfl rfl (h0) ?_ | refine AOps.box kn rfl rfl rfl rfl rfl rfl ?_ | refine AOps.alloc Try.hX kn rfl rfl rfl rfl rfl rfl rfl ?_ | refine AOps.store Try.hX kn rfl rfl rfl rfl rfl rfl rfl rfl rfl rfl rfl ?_ | refine AOps.buildSlice Try.hX kn rfl rfl rfl rfl rfl rfl rfl rfl rfl rfl rfl rfl ?_ | refine AOps.append Try.hX kn rfl rfl rfl rfl rfl rfl rfl rfl rfl rfl rfl rfl rfl rfl rfl rfl rfl rfl rfl rfl rfl ?_ ?_ | refine AOps.toStr Try.hX kn rfl rfl rfl rfl rfl rfl rfl rfl rfl rfl rfl (by first | exact rfl | exact byte1 _) rfl ?_ | refine AOps.buildArr Try.hX kn rfl rfl rfl rfl rfl rfl rfl rfl ?_ | refine AOps.indexArr Try.hX kn rfl rfl rfl rfl rfl rfl rfl rfl rfl rfl rfl rfl ?_ | refine AOps.runP1 Try.hX kn rfl rfl ?_ | (refine AOps.splitT rfl rfl rfl asm (fun h => ?_) <;> (fail_if_success (cases h; done)) <;> rw [h]) | (refine AOps.splitF rfl rfl rfl asm (fun h => ?_) <;> (fail_if_success (cases h; done)) <;> rw [h]) | (refine AOps.split rfl rfl rfl (fun h => ?_) (fun h => ?_) <;> (fail_if_success (cases h; done)) <;> rw [h]) | refine AOps.drawn (by kernel_rfl) ?_)
      refine AK.loopE (α := Nat) (fun i => i ≤ args.length ∧ mapB (.mk 11 [u, u']) none args = mapB (.mk 11 [u, u']) (pre args i) (args.drop i) ∧ ∀ p, pre args i = some p → p ∈ args ∧ vHas p (.mk 11 [u, u']) = true) (fun i => args.length - i)
        (fun i => [(202, .c (.int .i64 i)), (201, .c (.int .i64 (encVls args).length)), (200, .c (.sl 7 (encVls args))), (2, .ptr 2 0), (3, .ptr 3 0)])
        (fun _ => [(2, [.c (.int .i64 13), .c (.sl 2 (encTys [u, u']))]), (3, [.c (.int .i64 13), .c (.int .i64 n), .c (.int .i64 a), .c (.str s), .c (.sl 7 (encVls args)), .c (.sl 2 (encTys types)), .c (.sl 5 (encNds code))])]) (fun _ => []) [2, 3] 0
        ⟨by omega, rfl, fun p h => by simp [pre] at h⟩ ⟨.inl rfl, .inl rfl, .inl rfl, .inl rfl, .inl rfl, trivial⟩ ⟨rfl, rfl, trivial⟩ trivial rfl rfl rfl ?_
      rintro i ⟨hi, hinv, hpre⟩ ih
      rcases get_or args i hi with ⟨x, hx, hm⟩ | he
      · have hc := vls_lt hx
        have hq := hin x hm _ hpb hpk hps
        have hlt := lt_of_get hx
        rw [drop_at hx] at hinv
        have hnx : pre args (i + 1) = some x := by simp only [pre, Nat.add_one_ne_zero, if_false, Nat.add_sub_cancel]; exact hx
        by_cases hxh : vHas x (.mk 11 [u, u']) = true
        rotate_left
        · have hxf : vHas x (.mk 11 [u, u']) = false := by simpa using hxh
          rw [hxf] at hq
          have h0 : mapB (.mk 11 [u, u']) none args = false := by
            rw [hinv]; cases pre args i <;> simp only [mapB_some_cons, mapB_none_cons, hxf, Bool.false_and]
          rw [h0]
          clear hinv h0
          obtain ⟨x1, x2, x3, x4, x5, x6, x7⟩ := x
          have tsr9 := vls_at hx
          exact dq
        · rw [hxh] at hq
          obtain ⟨x2, x3, x4, x6, x7, xk, xv, rfl, hxk, hxv⟩ := has11 hxh
          by_cases i0 : i = 0
          · subst i0
            have hinv' : mapB (.mk 11 [u, u']) none args = mapB (.mk 11 [u, u']) (some (.mk 11 x2 x3 x4 [xk, xv] x6 x7)) (args.drop 1) := by
              rw [hinv]; simp only [pre, if_true, mapB_none_cons, hxh, Bool.true_and]
            repeat' (first | refine AK.runP Try.hX Try.mixed 300 rfl ?_ | refine AK.condTe rfl asm ?_ | refine AK.condFe rfl asm ?_ | (refine AK.condS rfl (fun h => ?_) (fun h => ?_) <;> first | (cases h; done) | rw [h] | skip) | refine AK.retQ Try.hX hf rfl rfl ?_ | refine AK.region Try.mixed rfl ?_ | refine AOps.done ?_ | refine AOps.runS Try.hX kn rfl ?_ | refine AOps.index Try.hX rfl rfl rfl rfl rfl rfl rfl rfl rfl rfl (0) rfl (vls_at hx) rfl ?_ | refine AOps.callq kn rfl rfl rfl rfl (hq) ?_ | refine AOps.box kn rfl rfl rfl rfl rfl rfl ?_ | refine AOps.alloc Try.hX kn rfl rfl rfl rfl rfl rfl rfl ?_ | refine AOps.store Try.hX kn rfl rfl rfl rfl rfl rfl rfl rfl rfl rfl rfl ?_ | refine AOps.buildSlice Try.hX kn rfl rfl rfl rfl rfl rfl rfl rfl rfl rfl rfl rfl ?_ | refine AOps.append Try.hX kn rfl rfl rfl rfl rfl rfl rfl rfl rfl rfl rfl rfl rfl rfl rfl rfl rfl rfl rfl rfl rfl ?_ ?_ | refine AOps.toStr Try.hX kn rfl rfl rfl rfl rfl rfl rfl rfl rfl rfl rfl (by first | exact rfl | exact byte1 _) rfl ?_ | refine AOps.buildArr Try.hX kn rfl rfl rfl rfl rfl rfl rfl rfl ?_ | refine AOps.indexArr Try.hX kn rfl rfl rfl rfl rfl rfl rfl rfl rfl rfl rfl rfl ?_ | refine AOps.runP1 Try.hX kn rfl rfl ?_ | (refine AOps.splitT rfl rfl rfl asm (fun h => ?_) <;> (fail_if_success (cases h; done)) <;> rw [h]) | (refine AOps.splitF rfl rfl rfl asm (fun h => ?_) <;> (fail_if_success (cases h; done)) <;> rw [h]) | (refine AOps.split rfl rfl rfl (fun h => ?_) (fun h => ?_) <;> (fail_if_success (cases h; done)) <;> rw [h]) | refine AOps.drawn (by kernel_rfl) ?_)
            refine AK.again (ih 1 ⟨hlt, ?_, ?_⟩ (by omega)) ⟨.inl rfl, .inl rfl, .inl rfl, .inl rfl, .inl rfl, trivial⟩ ⟨rfl, rfl, trivial⟩ trivial rfl rfl rfl
            · rw [hinv', hnx]
            · intro p hp; rw [hnx] at hp; cases hp; exact ⟨hm, hxh⟩
          · have ei : decide (((i : Nat) : Int) > 0) = true := by simp; omega
            obtain ⟨p, hpp⟩ : ∃ p, args[i - 1]? = some p := ⟨args[i - 1]'(by omega), by simp⟩
            have hpi : pre args i = some p := by simp only [pre, if_neg i0]; exact hpp
            obtain ⟨hpm, hph⟩ := hpre p hpi
            have hws : IntKind.i64.wrap (((i : Nat) : Int) - 1) = ((i - 1 : Nat) : Int) := by rw [w64 (by omega) (by omega)]; omega
            have hpsz := vlsSize_mem hpm
            obtain ⟨p2, p3, p4, p6, p7, pk, pv, rfl, hpk, hpv⟩ := has11 hph
            have hcq := Order_calls pk xk u hcp hu hpk hxk (by simp only [vlSize, vlsSize] at hpsz; omega)
            rw [rOrd_eq pk xk u hcp hu hpk hxk] at hcq
            have hmb : mapB (.mk 11 [u, u']) none args = (decide (vCmp pk xk < 0) && mapB (.mk 11 [u, u']) (some (.mk 11 x2 x3 x4 [xk, xv] x6 x7)) (args.drop (i + 1))) := by
              rw [hinv, hpi]
              rw [mapB_some_cons]
              rw [hxh, Bool.true_and]; rfl
            have g1 : [pk, pv][0]? = some pk := rfl
            have g2 : [xk, xv][0]? = some xk := rfl
            by_cases hcm : vCmp pk xk < 0
            · have ec : decide (vCmp pk xk ≥ 0) = false := by simp; omega
              rw [show decide (vCmp pk xk < 0) = true from by simpa using hcm, Bool.true_and] at hmb
              obtain ⟨a1, a2, a3, a4, a5, a6, a7⟩ := xk
              obtain ⟨b1, b2, b3, b4, b5, b6, b7⟩ := pk
              repeat' (first | refine AK.runP Try.hX Try.mixed 300 rfl ?_ | refine AK.condTe rfl asm ?_ | refine AK.condFe rfl asm ?_ | (refine AK.condS rfl (fun h => ?_) (fun h => ?_) <;> first | (cases h; done) | rw [h] | skip) | refine AK.retQ Try.hX hf rfl rfl ?_ | refine AK.region Try.mixed rfl ?_ | refine AOps.done ?_ | refine AOps.runS Try.hX kn rfl ?_ | refine AOps.index Try.hX rfl rfl rfl rfl rfl rfl rfl rfl rfl rfl (i) rfl (vls_at hx) rfl ?_ | refine AOps.callq kn rfl rfl rfl rfl (hq) ?_ | refine AOps.index Try.hX rfl rfl rfl rfl rfl rfl rfl rfl rfl rfl (i - 1) hws (vls_at hpp) rfl ?_ | refine AOps.index Try.hX rfl rfl rfl rfl rfl rfl rfl rfl rfl rfl (0) rfl (vls_at g1) rfl ?_ | refine AOps.index Try.hX rfl rfl rfl rfl rfl rfl rfl rfl rfl rfl (0) rfl (vls_at g2) rfl ?_ | refine AOps.callq kn rfl rfl rfl rfl (hcq) ?_ | refine AOps.box kn rfl rfl rfl rfl rfl rfl ?_ | refine AOps.alloc Try.hX kn rfl rfl rfl rfl rfl rfl rfl ?_ | refine AOps.store Try.hX kn rfl rfl rfl rfl rfl rfl rfl rfl rfl rfl rfl ?_ | refine AOps.buildSlice Try.hX kn rfl rfl rfl rfl rfl rfl rfl rfl rfl rfl rfl rfl ?_ | refine AOps.append Try.hX kn rfl rfl rfl rfl rfl rfl rfl rfl rfl rfl rfl rfl rfl rfl rfl rfl rfl rfl rfl rfl rfl ?_ ?_ | refine AOps.toStr Try.hX kn rfl rfl rfl rfl rfl rfl rfl rfl rfl rfl rfl (by first | exact rfl | exact byte1 _) rfl ?_ | refine AOps.buildArr Try.hX kn rfl rfl rfl rfl rfl rfl rfl rfl ?_ | refine AOps.indexArr Try.hX kn rfl rfl rfl rfl rfl rfl rfl rfl rfl rfl rfl rfl ?_ | refine AOps.runP1 Try.hX kn rfl rfl ?_ | (refine AOps.splitT rfl rfl rfl asm (fun h => ?_) <;> (fail_if_success (cases h; done)) <;> rw [h]) | (refine AOps.splitF rfl rfl rfl asm (fun h => ?_) <;> (fail_if_success (cases h; done)) <;> rw [h]) | (refine AOps.split rfl rfl rfl (fun h => ?_) (fun h => ?_) <;> (fail_if_success (cases h; done)) <;> rw [h]) | refine AOps.drawn (by kernel_rfl) ?_)
              refine AK.again (ih (i + 1) ⟨hlt, ?_, ?_⟩ (by omega)) ⟨.inl (succ64 (by omega)), .inl rfl, .inl rfl, .inl rfl, .inl rfl, trivial⟩ ⟨rfl, rfl, trivial⟩ trivial rfl rfl rfl
              · rw [hmb, hnx]
              · intro p hp; rw [hnx] at hp; cases hp; exact ⟨hm, hxh⟩
            · have ec : decide (vCmp pk xk ≥ 0) = true := by simp; omega
              rw [show decide (vCmp pk xk < 0) = false from by simpa using hcm, Bool.false_and] at hmb
              rw [hmb]
              clear hmb hinv
              obtain ⟨a1, a2, a3, a4, a5, a6, a7⟩ := xk
              obtain ⟨b1, b2, b3, b4, b5, b6, b7⟩ := pk
              repeat' (first | refine AK.runP Try.hX Try.mixed 300 rfl ?_ | refine AK.condTe rfl asm ?_ | refine AK.condFe rfl asm ?_ | (refine AK.condS rfl (fun h => ?_) (fun h => ?_) <;> first | (cases h; done) | rw [h] | skip) | refine AK.retQ Try.hX hf rfl rfl ?_ | refine AK.region Try.mixed rfl ?_ | refine AOps.done ?_ | refine AOps.runS Try.hX kn rfl ?_ | refine AOps.index Try.hX rfl rfl rfl rfl rfl rfl rfl rfl rfl rfl (i) rfl (vls_at hx) rfl ?_ | refine AOps.callq kn rfl rfl rfl rfl (hq) ?_ | refine AOps.index Try.hX rfl rfl rfl rfl rfl rfl rfl rfl rfl rfl (i - 1) hws (vls_at hpp) rfl ?_ | refine AOps.index Try.hX rfl rfl rfl rfl rfl rfl rfl rfl rfl rfl (0) rfl (vls_at g1) rfl ?_ | refine AOps.index Try.hX rfl rfl rfl rfl rfl rfl rfl rfl rfl rfl (0) rfl (vls_at g2) rfl ?_ | refine AOps.callq kn rfl rfl rfl rfl (hcq) ?_ | refine AOps.box kn rfl rfl rfl rfl rfl rfl ?_ | refine AOps.alloc Try.hX kn rfl rfl rfl rfl rfl rfl rfl ?_ | refine AOps.store Try.hX kn rfl rfl rfl rfl rfl rfl rfl rfl rfl rfl rfl ?_ | refine AOps.buildSlice Try.hX kn rfl rfl rfl rfl rfl rfl rfl rfl rfl rfl rfl rfl ?_ | refine AOps.append Try.hX kn rfl rfl rfl rfl rfl rfl rfl rfl rfl rfl rfl rfl rfl rfl rfl rfl rfl rfl rfl rfl rfl ?_ ?_ | refine AOps.toStr Try.hX kn rfl rfl rfl rfl rfl rfl rfl rfl rfl rfl rfl (by first | exact rfl | exact byte1 _) rfl ?_ | refine AOps.buildArr Try.hX kn rfl rfl rfl rfl rfl rfl rfl rfl ?_ | refine AOps.indexArr Try.hX kn rfl rfl rfl rfl rfl rfl rfl rfl rfl rfl rfl rfl ?_ | refine AOps.runP1 Try.hX kn rfl rfl ?_ | (refine AOps.splitT rfl rfl rfl asm (fun h => ?_) <;> (fail_if_success (cases h; done)) <;> rw [h]) | (refine AOps.splitF rfl rfl rfl asm (fun h => ?_) <;> (fail_if_success (cases h; done)) <;> rw [h]) | (refine AOps.split rfl rfl rfl (fun h => ?_) (fun h => ?_) <;> (fail_if_success (cases h; done)) <;> rw [h]) | refine AOps.drawn (by kernel_rfl) ?_)
              all_goals rfl
      · have hc := vls_end he
        have h0 : mapB (.mk 11 [u, u']) none args = true := by
          rw [hinv, he, List.drop_length]; exact mapB_nil _ _
        rw [h0]
        clear ih
        exact dq
    by_cases c : k = 14
    · subst c
      have hl2 : ts.length = 2 := by
        have : arity 14 = 2 := by decide
        omega
      rw [rb14 _ _ _ _ _ _ _ hl2]
      have h0 := bare_calls (.mk 14 n a s args types code) false false false 0 2 true
      have h1 := SameTypes_calls types ts (by omega)
      generalize bareB (.mk 14 n a s args types code) false false false 0 2 true = B at h0
      generalize tysSame types ts = b1 at h1
      refine QCalls.of Try.func114 rfl (fun args w => Try.call114 args w) (Nat.le_of_ble_eq_true rfl) [(0, .c (encTy (.mk 14 ts))), (1, .c (encVl (.mk 14 n a s args types code)))] rfl fun β hβ => ?_; have hf := Try.func114
      repeat' (first | refine AK.runP Try.hX Try.mixed 300 rfl ?_ | refine AK.condTe rfl asm ?_ | refine AK.condFe rfl asm ?_ | (refine AK.condS rfl (fun h => ?_) (fun h => ?_) <;> first | (cases h; done) | rw [h] | skip) | refine AK.retQ Try.hX hf rfl rfl ?_ | refine AK.region Try.mixed rfl ?_ | refine AOps.done ?_ | refine AOps.runS Try.hX kn rfl ?_ | refine AOps.callq kn rfl rfl rfl rfl (h0) ?_ | refine AOps.callq kn rfl rfl rfl rfl (h1) ?_ | refine AOps.box kn rfl rfl rfl rfl rfl rfl ?_ | refine AOps.alloc Try.hX kn rfl rfl rfl rfl rfl rfl rfl ?_ | refine AOps.store Try.hX kn rfl rfl rfl rfl rfl rfl rfl rfl rfl rfl rfl ?_ | refine AOps.buildSlice Try.hX kn rfl rfl rfl rfl rfl rfl rfl rfl rfl rfl rfl rfl ?_ | refine AOps.append Try.hX kn rfl rfl rfl rfl rfl rfl rfl rfl rfl rfl rfl rfl rfl rfl rfl rfl rfl rfl rfl rfl rfl ?_ ?_ | refine AOps.toStr Try.hX kn rfl rfl rfl rfl rfl rfl rfl rfl rfl rfl rfl (by first | exact rfl | exact byte1 _) rfl ?_ | refine AOps.buildArr Try.hX kn rfl rfl rfl rfl rfl rfl rfl rfl ?_ | refine AOps.indexArr Try.hX kn rfl rfl rfl rfl rfl rfl rfl rfl rfl rfl rfl rfl ?_ | refine AOps.runP1 Try.hX kn rfl rfl ?_ | (refine AOps.splitT rfl rfl rfl asm (fun h => ?_) <;> (fail_if_success (cases h; done)) <;> rw [h]) | (refine AOps.splitF rfl rfl rfl asm (fun h => ?_) <;> (fail_if_success (cases h; done)) <;> rw [h]) | (refine AOps.split rfl rfl rfl (fun h => ?_) (fun h => ?_) <;> (fail_if_success (cases h; done)) <;> rw [h]) | refine AOps.drawn (by kernel_rfl) ?_)
      all_goals
        show (_ : CV) = _
        clear hf hin h0 h1
        simp_all
    have hk : k = 15 := by have := arity_in har; omega
    subst hk
    rw [rb15]
    have h0 := bare_calls (.mk 15 n a s args types code) true true false 1 0 false
    have h1 := natural_calls n
    have h2 := isAddress_calls a
    cases hB : bareB (.mk 15 n a s args types code) true true false 1 0 false with
    | false =>
      rw [hB] at h0
      refine QCalls.of Try.func114 rfl (fun args w => Try.call114 args w) (Nat.le_of_ble_eq_true rfl) [(0, .c (encTy (.mk 15 ts))), (1, .c (encVl (.mk 15 n a s args types code)))] rfl fun β hβ => ?_; have hf := Try.func114
      exact dq
    | true =>
      rw [hB] at h0
      have hsh : args.length = 1 := by unfold bareB at hB; simp at hB; omega
      obtain ⟨x, rfl⟩ := len1 hsh
      obtain ⟨u, rfl⟩ := tlen1 (show ts.length = 1 by have : arity 15 = 1 := by decide
                                                      omega)
      clear hB
      have hu : tBad u = false := tBads_mem hbs (by simp)
      have huk : tKeys u = true := tsKeys_mem hks (by simp)
      have hus : tySize u ≤ 1048577 := by have := tysSize_mem (l := [u]) (x := u) (by simp); omega
      have h3 := hin x (by simp) u hu huk hus
      have g1 : [u][0]? = some u := rfl
      have g3 : [x][0]? = some x := rfl
      rw [show vHasAll [x] (tyArg (.mk 15 [u]) 0) = vHas x u from by unfold vHasAll; unfold vHasAll; simp [tyArg, tyArgs]]
      generalize vHas x u = b1 at h3
      obtain ⟨U, us⟩ := u
      obtain ⟨x1, x2, x3, x4, x5, x6, x7⟩ := x
      refine QCalls.of Try.func114 rfl (fun args w => Try.call114 args w) (Nat.le_of_ble_eq_true rfl) [(0, .c (encTy (.mk 15 [.mk U us]))), (1, .c (encVl (.mk 15 n a s [.mk x1 x2 x3 x4 x5 x6 x7] types code)))] rfl fun β hβ => ?_; have hf := Try.func114
      repeat' (first | refine AK.runP Try.hX Try.mixed 300 rfl ?_ | refine AK.condTe rfl asm ?_ | refine AK.condFe rfl asm ?_ | (refine AK.condS rfl (fun h => ?_) (fun h => ?_) <;> first | (cases h; done) | rw [h] | skip) | refine AK.retQ Try.hX hf rfl rfl ?_ | refine AK.region Try.mixed rfl ?_ | refine AOps.done ?_ | refine AOps.runS Try.hX kn rfl ?_ | refine AOps.callq kn rfl rfl rfl rfl (h0) ?_ | refine AOps.callq kn rfl rfl rfl rfl (h1) ?_ | refine AOps.callq kn rfl rfl rfl rfl (h2) ?_ | refine AOps.callq kn rfl rfl rfl rfl (h3) ?_ | refine AOps.index Try.hX rfl rfl rfl rfl rfl rfl rfl rfl rfl rfl (0) rfl (tys_at g1) rfl ?_ | refine AOps.index Try.hX rfl rfl rfl rfl rfl rfl rfl rfl rfl rfl (0) rfl (vls_at g3) rfl ?_ | refine AOps.box kn rfl rfl rfl rfl rfl rfl ?_ | refine AOps.alloc Try.hX kn rfl rfl rfl rfl rfl rfl rfl ?_ | refine AOps.store Try.hX kn rfl rfl rfl rfl rfl rfl rfl rfl rfl rfl rfl ?_ | refine AOps.buildSlice Try.hX kn rfl rfl rfl rfl rfl rfl rfl rfl rfl rfl rfl rfl ?_ | refine AOps.append Try.hX kn rfl rfl rfl rfl rfl rfl rfl rfl rfl rfl rfl rfl rfl rfl rfl rfl rfl rfl rfl rfl rfl ?_ ?_ | refine AOps.toStr Try.hX kn rfl rfl rfl rfl rfl rfl rfl rfl rfl rfl rfl (by first | exact rfl | exact byte1 _) rfl ?_ | refine AOps.buildArr Try.hX kn rfl rfl rfl rfl rfl rfl rfl rfl ?_ | refine AOps.indexArr Try.hX kn rfl rfl rfl rfl rfl rfl rfl rfl rfl rfl rfl rfl ?_ | refine AOps.runP1 Try.hX kn rfl rfl ?_ | (refine AOps.splitT rfl rfl rfl asm (fun h => ?_) <;> (fail_if_success (cases h; done)) <;> rw [h]) | (refine AOps.splitF rfl rfl rfl asm (fun h => ?_) <;> (fail_if_success (cases h; done)) <;> rw [h]) | (refine AOps.split rfl rfl rfl (fun h => ?_) (fun h => ?_) <;> (fail_if_success (cases h; done)) <;> rw [h]) | refine AOps.drawn (by kernel_rfl) ?_)
      all_goals
        show (_ : CV) = _
        clear hf hin h0 h1 h2 h3
        refine congrArg CV.bool ?_
        cases b1 <;> (try simp_all) <;> (try omega)
termination_by v => SizeOf.sizeOf v
decreasing_by
  have := List.sizeOf_lt_of_mem hx
  simp at this ⊢; omega

set_option maxHeartbeats 0 in
theorem rHas_calls (t : Ty) (v : Vl) (hw : vlWf v) (ht : tySize t ≤ 1048577) (hv : vlSize v ≤ 1048577) : QCalls Try.prog Try.X 71 [encTy t, encVl v] (.bool (tHas t v)) :=
  rHas_of t v ht fun hg => rhas_calls v t (tGood_bad hg) (tGood_keys hg) hw hv ht

end Go.Proofs
