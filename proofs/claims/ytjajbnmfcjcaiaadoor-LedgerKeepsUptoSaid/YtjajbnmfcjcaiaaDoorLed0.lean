/- What parse of package value answers. What put and add of package tree answer. Leaving a call with boxes at the end of its text. Package tree's reader as plain functions, step for step, and that it answers as trees are read. What Node, Told, Pack, Parse and Unpack of package value answer. What instruction, step, row and Code of package check answer. What row and Code of package check answer. What sound, Fits and Script of package check answer. What Script of package check answers. Ledgers as plain data, and their cells. -/
import Derived.Test.YtjajbnmfcjcaiaaDoorVal8
import Derived.Test.YtjajbnmfcjcaiaaDoorKind9
import Derived.Test.YtjajbnmfcjcaiaaDoorLibD
import Derived.Test.YtjajbnmfcjcaiaaDoorChkQ
import Derived.Test.YtjajbnmfcjcaiaaDoorChk6
import Derived.Test.YtjajbnmfcjcaiaaDoorChk9
set_option linter.unusedVariables false
set_option linter.unusedSimpArgs false
set_option maxRecDepth 100000
namespace Go.Proofs
open Go.Abs
theorem len_eq (l : List Nd) (b : Prop) [Decidable b] (h : b ↔ l.length = 0) : ((((encNds l).length : Nat) : Int) == 0) = decide b := by
  rw [encNds_length, Bool.eq_iff_iff]; simp [h]
theorem int_eq (a b : Int) : (a == b) = decide (a = b) := by rw [Bool.eq_iff_iff]; simp
attribute [local irreducible] AK AOps QCalls ECalls vPar vRow vParAll vParMap

set_option maxHeartbeats 0 in
theorem vparse_calls : ∀ (n : Nd) (t : Ty), tBad t = false → ndSize n ≤ 1048577 → tySize t ≤ 1048577 → QCalls Tryd.prog Tryd.X 83 [encTy t, encNd n] (.tup [encVl (vPar n t).1, .bool (vPar n t).2])
  | .mk kind N P S args, .mk T ts, hb, hn, ht => by
    simp only [ndSize] at hn
    simp only [tySize] at ht
    have hl1 := ndsSize_len args
    have hin : ∀ x ∈ args, ∀ u, tBad u = false → tySize u ≤ 1048577 → QCalls Tryd.prog Tryd.X 83 [encTy u, encNd x] (.tup [encVl (vPar x u).1, .bool (vPar x u).2]) := fun x hx u h1 h2 => vparse_calls x u h1 (by have := ndsSize_mem hx; omega) h2
    have hin2 : ∀ k n p s xa, Nd.mk k n p s xa ∈ args → ∀ y ∈ xa, ∀ u, tBad u = false → tySize u ≤ 1048577 → QCalls Tryd.prog Tryd.X 83 [encTy u, encNd y] (.tup [encVl (vPar y u).1, .bool (vPar y u).2]) := fun k n p s xa hx y hy u h1 h2 => vparse_calls y u h1 (by have h3 := ndsSize_mem hx; have h4 := ndsSize_mem hy; simp only [ndSize] at h3; omega) h2
    obtain ⟨har, hbs⟩ := tBad_args hb
    simp only [tyT, tyArgs] at har hbs
    have hrow : QCalls Tryd.prog Tryd.X 96 [.sl 2 (encTys ts), .sl 5 (encNds args)] (.tup [.sl 7 (encVls (vRow args ts).1), .bool (vRow args ts).2]) :=
      row_calls ts args (by omega) fun x hx u hu => hin x hx u (tBads_mem hbs hu) (by have := tysSize_mem hu; omega)
    by_cases c : T = 1
    · subst c
      rw [vPar1]
      by_cases hi : kind = 2 ∧ P = 20
      · obtain ⟨rfl, rfl⟩ := hi
        have h1 := is_calls 2 N 20 20 S args
        rw [show decide ((2 : Int) = 2 ∧ (20 : Int) = 20) = true from rfl] at h1
        have e := len_eq args ((2 : Int) = 2 ∧ (20 : Int) = 20 ∧ args.length = 0) (by simp)
        refine QCalls.of Tryd.func83 rfl (fun args w => Tryd.call83 args w) (Nat.le_of_ble_eq_true rfl) [(0, .c (encTy (.mk 1 ts))), (1, .c (encNd (.mk 2 N 20 S args)))] rfl fun β hβ => ?_; have hf := Tryd.func83
        refine AK.seq ?_
        refine AK.region Tryd.mixed rfl ?_
        repeat' (first | refine so ?_ | (refine uA rfl ?_ ?_ <;> (try (show (_ : Nat) * _ ≤ _; dsimp only))) | ((first | refine AOps.splitT rfl rfl rfl asm (fun h => ?_) | refine AOps.splitF rfl rfl rfl asm (fun h => ?_) | refine AOps.split rfl rfl rfl (fun h => ?_) (fun h => ?_)) <;> (fail_if_success (cases h; done)) <;> rw [h]))
        refine AK.freeze 3 rfl rfl rfl rfl ?_
        repeat' (first | refine st ?_ | (refine AK.condS rfl (fun h => ?_) (fun h => ?_) <;> first | (cases h; done) | rw [h] | skip) | refine uQ hf rfl rfl ?_ | refine uC rfl h1 ?_ | (refine uA rfl ?_ ?_ <;> (try (show (_ : Nat) * _ ≤ _; dsimp only))) | ((first | refine AOps.splitT rfl rfl rfl asm (fun h => ?_) | refine AOps.splitF rfl rfl rfl asm (fun h => ?_) | refine AOps.split rfl rfl rfl (fun h => ?_) (fun h => ?_)) <;> (fail_if_success (cases h; done)) <;> rw [h]))
        all_goals exact congrArg (fun b => CV.tup [encVl (val0 1), CV.bool b]) e
      · have h1 := is_calls kind N P 20 S args
        rw [show decide (kind = 2 ∧ P = 20) = false from decide_eq_false hi] at h1
        rw [show decide (kind = 2 ∧ P = 20 ∧ args.length = 0) = false from decide_eq_false (fun h => hi ⟨h.1, h.2.1⟩)]
        refine QCalls.of Tryd.func83 rfl (fun args w => Tryd.call83 args w) (Nat.le_of_ble_eq_true rfl) [(0, .c (encTy (.mk 1 ts))), (1, .c (encNd (.mk kind N P S args)))] rfl fun β hβ => ?_; have hf := Tryd.func83
        refine AK.seq ?_
        refine AK.region Tryd.mixed rfl ?_
        repeat' (first | refine so ?_ | (refine uA rfl ?_ ?_ <;> (try (show (_ : Nat) * _ ≤ _; dsimp only))) | ((first | refine AOps.splitT rfl rfl rfl asm (fun h => ?_) | refine AOps.splitF rfl rfl rfl asm (fun h => ?_) | refine AOps.split rfl rfl rfl (fun h => ?_) (fun h => ?_)) <;> (fail_if_success (cases h; done)) <;> rw [h]))
        refine AK.freeze 3 rfl rfl rfl rfl ?_
        exact dq
    by_cases c : T = 2
    · subst c
      rw [vPar2]
      by_cases hi : kind = 2 ∧ P = 21
      · obtain ⟨rfl, rfl⟩ := hi
        have h1 := is_calls 2 N 21 21 S args
        have h2 := is_calls 2 N 21 22 S args
        rw [show decide ((2 : Int) = 2 ∧ (21 : Int) = 21) = true from rfl] at h1
        rw [show decide ((2 : Int) = 2 ∧ (21 : Int) = 22) = false from rfl] at h2
        have e := len_eq args ((2 : Int) = 2 ∧ ((21 : Int) = 21 ∨ (21 : Int) = 22) ∧ args.length = 0) (by simp)
        refine QCalls.of Tryd.func83 rfl (fun args w => Tryd.call83 args w) (Nat.le_of_ble_eq_true rfl) [(0, .c (encTy (.mk 2 ts))), (1, .c (encNd (.mk 2 N 21 S args)))] rfl fun β hβ => ?_; have hf := Tryd.func83
        refine AK.seq ?_
        refine AK.region Tryd.mixed rfl ?_
        repeat' (first | refine so ?_ | (refine uA rfl ?_ ?_ <;> (try (show (_ : Nat) * _ ≤ _; dsimp only))) | ((first | refine AOps.splitT rfl rfl rfl asm (fun h => ?_) | refine AOps.splitF rfl rfl rfl asm (fun h => ?_) | refine AOps.split rfl rfl rfl (fun h => ?_) (fun h => ?_)) <;> (fail_if_success (cases h; done)) <;> rw [h]))
        refine AK.freeze 3 rfl rfl rfl rfl ?_
        repeat' (first | refine st ?_ | (refine AK.condS rfl (fun h => ?_) (fun h => ?_) <;> first | (cases h; done) | rw [h] | skip) | refine uQ hf rfl rfl ?_ | refine uC rfl h1 ?_ | refine uC rfl h2 ?_ | (refine uA rfl ?_ ?_ <;> (try (show (_ : Nat) * _ ≤ _; dsimp only))) | ((first | refine AOps.splitT rfl rfl rfl asm (fun h => ?_) | refine AOps.splitF rfl rfl rfl asm (fun h => ?_) | refine AOps.split rfl rfl rfl (fun h => ?_) (fun h => ?_)) <;> (fail_if_success (cases h; done)) <;> rw [h]))
        all_goals exact congrArg (fun b => CV.tup [encVl (.mk 2 (IntKind.i64.wrap (22 - 21)) 0 [] [] [] []), CV.bool b]) e
      by_cases hj : kind = 2 ∧ P = 22
      · obtain ⟨rfl, rfl⟩ := hj
        have h1 := is_calls 2 N 22 21 S args
        have h2 := is_calls 2 N 22 22 S args
        rw [show decide ((2 : Int) = 2 ∧ (22 : Int) = 21) = false from rfl] at h1
        rw [show decide ((2 : Int) = 2 ∧ (22 : Int) = 22) = true from rfl] at h2
        have e := len_eq args ((2 : Int) = 2 ∧ ((22 : Int) = 21 ∨ (22 : Int) = 22) ∧ args.length = 0) (by simp)
        refine QCalls.of Tryd.func83 rfl (fun args w => Tryd.call83 args w) (Nat.le_of_ble_eq_true rfl) [(0, .c (encTy (.mk 2 ts))), (1, .c (encNd (.mk 2 N 22 S args)))] rfl fun β hβ => ?_; have hf := Tryd.func83
        refine AK.seq ?_
        refine AK.region Tryd.mixed rfl ?_
        repeat' (first | refine so ?_ | (refine uA rfl ?_ ?_ <;> (try (show (_ : Nat) * _ ≤ _; dsimp only))) | ((first | refine AOps.splitT rfl rfl rfl asm (fun h => ?_) | refine AOps.splitF rfl rfl rfl asm (fun h => ?_) | refine AOps.split rfl rfl rfl (fun h => ?_) (fun h => ?_)) <;> (fail_if_success (cases h; done)) <;> rw [h]))
        refine AK.freeze 3 rfl rfl rfl rfl ?_
        repeat' (first | refine st ?_ | (refine AK.condS rfl (fun h => ?_) (fun h => ?_) <;> first | (cases h; done) | rw [h] | skip) | refine uQ hf rfl rfl ?_ | refine uC rfl h1 ?_ | refine uC rfl h2 ?_ | (refine uA rfl ?_ ?_ <;> (try (show (_ : Nat) * _ ≤ _; dsimp only))) | ((first | refine AOps.splitT rfl rfl rfl asm (fun h => ?_) | refine AOps.splitF rfl rfl rfl asm (fun h => ?_) | refine AOps.split rfl rfl rfl (fun h => ?_) (fun h => ?_)) <;> (fail_if_success (cases h; done)) <;> rw [h]))
        all_goals exact congrArg (fun b => CV.tup [encVl (.mk 2 (IntKind.i64.wrap (22 - 22)) 0 [] [] [] []), CV.bool b]) e
      have h1 := is_calls kind N P 21 S args
      have h2 := is_calls kind N P 22 S args
      rw [decide_eq_false hi] at h1
      rw [decide_eq_false hj] at h2
      rw [show decide (kind = 2 ∧ (P = 21 ∨ P = 22) ∧ args.length = 0) = false from decide_eq_false (fun h => h.2.1.elim (fun g => hi ⟨h.1, g⟩) (fun g => hj ⟨h.1, g⟩))]
      refine QCalls.of Tryd.func83 rfl (fun args w => Tryd.call83 args w) (Nat.le_of_ble_eq_true rfl) [(0, .c (encTy (.mk 2 ts))), (1, .c (encNd (.mk kind N P S args)))] rfl fun β hβ => ?_; have hf := Tryd.func83
      refine AK.seq ?_
      refine AK.region Tryd.mixed rfl ?_
      repeat' (first | refine so ?_ | (refine uA rfl ?_ ?_ <;> (try (show (_ : Nat) * _ ≤ _; dsimp only))) | ((first | refine AOps.splitT rfl rfl rfl asm (fun h => ?_) | refine AOps.splitF rfl rfl rfl asm (fun h => ?_) | refine AOps.split rfl rfl rfl (fun h => ?_) (fun h => ?_)) <;> (fail_if_success (cases h; done)) <;> rw [h]))
      refine AK.freeze 3 rfl rfl rfl rfl ?_
      exact dq
    by_cases c : T = 3
    · subst c
      rw [vPar3 3 kind N P (by decide), ← int_eq]
      refine QCalls.of Tryd.func83 rfl (fun args w => Tryd.call83 args w) (Nat.le_of_ble_eq_true rfl) [(0, .c (encTy (.mk 3 ts))), (1, .c (encNd (.mk kind N P S args)))] rfl fun β hβ => ?_; have hf := Tryd.func83
      refine AK.seq ?_
      refine AK.region Tryd.mixed rfl ?_
      repeat' (first | refine so ?_ | (refine uA rfl ?_ ?_ <;> (try (show (_ : Nat) * _ ≤ _; dsimp only))) | ((first | refine AOps.splitT rfl rfl rfl asm (fun h => ?_) | refine AOps.splitF rfl rfl rfl asm (fun h => ?_) | refine AOps.split rfl rfl rfl (fun h => ?_) (fun h => ?_)) <;> (fail_if_success (cases h; done)) <;> rw [h]))
      refine AK.freeze 3 rfl rfl rfl rfl ?_
      exact dq
    by_cases c : T = 4
    · subst c
      rw [vPar3 4 kind N P (by decide), ← int_eq]
      refine QCalls.of Tryd.func83 rfl (fun args w => Tryd.call83 args w) (Nat.le_of_ble_eq_true rfl) [(0, .c (encTy (.mk 4 ts))), (1, .c (encNd (.mk kind N P S args)))] rfl fun β hβ => ?_; have hf := Tryd.func83
      refine AK.seq ?_
      refine AK.region Tryd.mixed rfl ?_
      repeat' (first | refine so ?_ | (refine uA rfl ?_ ?_ <;> (try (show (_ : Nat) * _ ≤ _; dsimp only))) | ((first | refine AOps.splitT rfl rfl rfl asm (fun h => ?_) | refine AOps.splitF rfl rfl rfl asm (fun h => ?_) | refine AOps.split rfl rfl rfl (fun h => ?_) (fun h => ?_)) <;> (fail_if_success (cases h; done)) <;> rw [h]))
      refine AK.freeze 3 rfl rfl rfl rfl ?_
      exact dq
    by_cases c : T = 5
    · subst c
      rw [vPar3 5 kind N P (by decide), ← int_eq]
      refine QCalls.of Tryd.func83 rfl (fun args w => Tryd.call83 args w) (Nat.le_of_ble_eq_true rfl) [(0, .c (encTy (.mk 5 ts))), (1, .c (encNd (.mk kind N P S args)))] rfl fun β hβ => ?_; have hf := Tryd.func83
      refine AK.seq ?_
      refine AK.region Tryd.mixed rfl ?_
      repeat' (first | refine so ?_ | (refine uA rfl ?_ ?_ <;> (try (show (_ : Nat) * _ ≤ _; dsimp only))) | ((first | refine AOps.splitT rfl rfl rfl asm (fun h => ?_) | refine AOps.splitF rfl rfl rfl asm (fun h => ?_) | refine AOps.split rfl rfl rfl (fun h => ?_) (fun h => ?_)) <;> (fail_if_success (cases h; done)) <;> rw [h]))
      refine AK.freeze 3 rfl rfl rfl rfl ?_
      exact dq
    by_cases c : T = 7
    · subst c
      rw [vPar3 7 kind N P (by decide), ← int_eq]
      refine QCalls.of Tryd.func83 rfl (fun args w => Tryd.call83 args w) (Nat.le_of_ble_eq_true rfl) [(0, .c (encTy (.mk 7 ts))), (1, .c (encNd (.mk kind N P S args)))] rfl fun β hβ => ?_; have hf := Tryd.func83
      refine AK.seq ?_
      refine AK.region Tryd.mixed rfl ?_
      repeat' (first | refine so ?_ | (refine uA rfl ?_ ?_ <;> (try (show (_ : Nat) * _ ≤ _; dsimp only))) | ((first | refine AOps.splitT rfl rfl rfl asm (fun h => ?_) | refine AOps.splitF rfl rfl rfl asm (fun h => ?_) | refine AOps.split rfl rfl rfl (fun h => ?_) (fun h => ?_)) <;> (fail_if_success (cases h; done)) <;> rw [h]))
      refine AK.freeze 3 rfl rfl rfl rfl ?_
      exact dq
    by_cases c : T = 6
    · subst c
      rw [vPar6, ← int_eq]
      refine QCalls.of Tryd.func83 rfl (fun args w => Tryd.call83 args w) (Nat.le_of_ble_eq_true rfl) [(0, .c (encTy (.mk 6 ts))), (1, .c (encNd (.mk kind N P S args)))] rfl fun β hβ => ?_; have hf := Tryd.func83
      refine AK.seq ?_
      refine AK.region Tryd.mixed rfl ?_
      repeat' (first | refine so ?_ | (refine uA rfl ?_ ?_ <;> (try (show (_ : Nat) * _ ≤ _; dsimp only))) | ((first | refine AOps.splitT rfl rfl rfl asm (fun h => ?_) | refine AOps.splitF rfl rfl rfl asm (fun h => ?_) | refine AOps.split rfl rfl rfl (fun h => ?_) (fun h => ?_)) <;> (fail_if_success (cases h; done)) <;> rw [h]))
      refine AK.freeze 3 rfl rfl rfl rfl ?_
      exact dq
    by_cases c : T = 9
    · subst c
      by_cases hi : kind = 2 ∧ P = 27
      · obtain ⟨rfl, rfl⟩ := hi
        rw [vPar9a]
        have h1 := is_calls 2 N 27 27 S args
        rw [show decide ((2 : Int) = 2 ∧ (27 : Int) = 27) = true from rfl] at h1
        have e := len_eq args (args.length = 0) Iff.rfl
        refine QCalls.of Tryd.func83 rfl (fun args w => Tryd.call83 args w) (Nat.le_of_ble_eq_true rfl) [(0, .c (encTy (.mk 9 ts))), (1, .c (encNd (.mk 2 N 27 S args)))] rfl fun β hβ => ?_; have hf := Tryd.func83
        refine AK.seq ?_
        refine AK.region Tryd.mixed rfl ?_
        repeat' (first | refine so ?_ | (refine uA rfl ?_ ?_ <;> (try (show (_ : Nat) * _ ≤ _; dsimp only))) | ((first | refine AOps.splitT rfl rfl rfl asm (fun h => ?_) | refine AOps.splitF rfl rfl rfl asm (fun h => ?_) | refine AOps.split rfl rfl rfl (fun h => ?_) (fun h => ?_)) <;> (fail_if_success (cases h; done)) <;> rw [h]))
        refine AK.freeze 3 rfl rfl rfl rfl ?_
        repeat' (first | refine st ?_ | (refine AK.condS rfl (fun h => ?_) (fun h => ?_) <;> first | (cases h; done) | rw [h] | skip) | refine uQ hf rfl rfl ?_ | refine uC rfl h1 ?_ | (refine uA rfl ?_ ?_ <;> (try (show (_ : Nat) * _ ≤ _; dsimp only))) | ((first | refine AOps.splitT rfl rfl rfl asm (fun h => ?_) | refine AOps.splitF rfl rfl rfl asm (fun h => ?_) | refine AOps.split rfl rfl rfl (fun h => ?_) (fun h => ?_)) <;> (fail_if_success (cases h; done)) <;> rw [h]))
        all_goals exact congrArg (fun b => CV.tup [encVl (val0 9), CV.bool b]) e
      by_cases hj : kind = 2 ∧ P = 26
      · obtain ⟨rfl, rfl⟩ := hj
        rw [vPar9b]
        have h1 := is_calls 2 N 26 27 S args
        rw [show decide ((2 : Int) = 2 ∧ (26 : Int) = 27) = false from rfl] at h1
        have h2 := is_calls 2 N 26 26 S args
        rw [show decide ((2 : Int) = 2 ∧ (26 : Int) = 26) = true from rfl] at h2
        generalize vRow args ts = z at hrow
        refine QCalls.of Tryd.func83 rfl (fun args w => Tryd.call83 args w) (Nat.le_of_ble_eq_true rfl) [(0, .c (encTy (.mk 9 ts))), (1, .c (encNd (.mk 2 N 26 S args)))] rfl fun β hβ => ?_; have hf := Tryd.func83
        refine AK.seq ?_
        refine AK.region Tryd.mixed rfl ?_
        repeat' (first | refine so ?_ | (refine uA rfl ?_ ?_ <;> (try (show (_ : Nat) * _ ≤ _; dsimp only))) | ((first | refine AOps.splitT rfl rfl rfl asm (fun h => ?_) | refine AOps.splitF rfl rfl rfl asm (fun h => ?_) | refine AOps.split rfl rfl rfl (fun h => ?_) (fun h => ?_)) <;> (fail_if_success (cases h; done)) <;> rw [h]))
        refine AK.freeze 3 rfl rfl rfl rfl ?_
        exact dq
      rw [vPar9c _ _ _ _ _ _ hi hj]
      have h1 := is_calls kind N P 27 S args
      have h2 := is_calls kind N P 26 S args
      rw [decide_eq_false hi] at h1
      rw [decide_eq_false hj] at h2
      refine QCalls.of Tryd.func83 rfl (fun args w => Tryd.call83 args w) (Nat.le_of_ble_eq_true rfl) [(0, .c (encTy (.mk 9 ts))), (1, .c (encNd (.mk kind N P S args)))] rfl fun β hβ => ?_; have hf := Tryd.func83
      refine AK.seq ?_
      refine AK.region Tryd.mixed rfl ?_
      repeat' (first | refine so ?_ | (refine uA rfl ?_ ?_ <;> (try (show (_ : Nat) * _ ≤ _; dsimp only))) | ((first | refine AOps.splitT rfl rfl rfl asm (fun h => ?_) | refine AOps.splitF rfl rfl rfl asm (fun h => ?_) | refine AOps.split rfl rfl rfl (fun h => ?_) (fun h => ?_)) <;> (fail_if_success (cases h; done)) <;> rw [h]))
      refine AK.freeze 3 rfl rfl rfl rfl ?_
      exact dq
    by_cases c : T = 11
    · subst c
      by_cases hi : kind = 2 ∧ P = 23
      · obtain ⟨rfl, rfl⟩ := hi
        rw [vPar11a]
        have h1 := is_calls 2 N 23 23 S args
        rw [show decide ((2 : Int) = 2 ∧ (23 : Int) = 23) = true from rfl] at h1
        generalize vRow args ts = z at hrow
        refine QCalls.of Tryd.func83 rfl (fun args w => Tryd.call83 args w) (Nat.le_of_ble_eq_true rfl) [(0, .c (encTy (.mk 11 ts))), (1, .c (encNd (.mk 2 N 23 S args)))] rfl fun β hβ => ?_; have hf := Tryd.func83
        refine AK.seq ?_
        refine AK.region Tryd.mixed rfl ?_
        repeat' (first | refine so ?_ | (refine uA rfl ?_ ?_ <;> (try (show (_ : Nat) * _ ≤ _; dsimp only))) | ((first | refine AOps.splitT rfl rfl rfl asm (fun h => ?_) | refine AOps.splitF rfl rfl rfl asm (fun h => ?_) | refine AOps.split rfl rfl rfl (fun h => ?_) (fun h => ?_)) <;> (fail_if_success (cases h; done)) <;> rw [h]))
        refine AK.freeze 3 rfl rfl rfl rfl ?_
        exact dq
      rw [vPar11b _ _ _ _ _ _ hi]
      have h1 := is_calls kind N P 23 S args
      rw [decide_eq_false hi] at h1
      refine QCalls.of Tryd.func83 rfl (fun args w => Tryd.call83 args w) (Nat.le_of_ble_eq_true rfl) [(0, .c (encTy (.mk 11 ts))), (1, .c (encNd (.mk kind N P S args)))] rfl fun β hβ => ?_; have hf := Tryd.func83
      refine AK.seq ?_
      refine AK.region Tryd.mixed rfl ?_
      repeat' (first | refine so ?_ | (refine uA rfl ?_ ?_ <;> (try (show (_ : Nat) * _ ≤ _; dsimp only))) | ((first | refine AOps.splitT rfl rfl rfl asm (fun h => ?_) | refine AOps.splitF rfl rfl rfl asm (fun h => ?_) | refine AOps.split rfl rfl rfl (fun h => ?_) (fun h => ?_)) <;> (fail_if_success (cases h; done)) <;> rw [h]))
      refine AK.freeze 3 rfl rfl rfl rfl ?_
      exact dq
    by_cases c : T = 12
    · subst c
      obtain ⟨u, u', rfl⟩ := tlen2 (show ts.length = 2 by have : arity 12 = 2 := by decide
                                                          omega)
      by_cases hi : kind = 2 ∧ P = 24
      · obtain ⟨rfl, rfl⟩ := hi
        rw [vPar12a]
        have h1 := is_calls 2 N 24 24 S args
        rw [show decide ((2 : Int) = 2 ∧ (24 : Int) = 24) = true from rfl] at h1
        have h2 := is_calls 2 N 24 25 S args
        rw [show decide ((2 : Int) = 2 ∧ (24 : Int) = 25) = false from rfl] at h2
        have hr := row_calls [u] args (by omega) fun x hx w hw => hin x hx w (tBads_mem hbs (by simp at hw ⊢; simp [hw])) (by have := tysSize_mem (l := [u, u']) (x := w) (by simp at hw ⊢; simp [hw]); omega)
        generalize vRow args [u] = z at hr
        refine QCalls.of Tryd.func83 rfl (fun args w => Tryd.call83 args w) (Nat.le_of_ble_eq_true rfl) [(0, .c (encTy (.mk 12 [u, u']))), (1, .c (encNd (.mk 2 N 24 S args)))] rfl fun β hβ => ?_; have hf := Tryd.func83
        refine AK.seq ?_
        refine AK.region Tryd.mixed rfl ?_
        repeat' (first | refine so ?_ | (refine uA rfl ?_ ?_ <;> (try (show (_ : Nat) * _ ≤ _; dsimp only))) | ((first | refine AOps.splitT rfl rfl rfl asm (fun h => ?_) | refine AOps.splitF rfl rfl rfl asm (fun h => ?_) | refine AOps.split rfl rfl rfl (fun h => ?_) (fun h => ?_)) <;> (fail_if_success (cases h; done)) <;> rw [h]))
        refine AK.freeze 3 rfl rfl rfl rfl ?_
        exact dq
      by_cases hj : kind = 2 ∧ P = 25
      · obtain ⟨rfl, rfl⟩ := hj
        rw [vPar12b]
        have h1 := is_calls 2 N 25 24 S args
        rw [show decide ((2 : Int) = 2 ∧ (25 : Int) = 24) = false from rfl] at h1
        have h2 := is_calls 2 N 25 25 S args
        rw [show decide ((2 : Int) = 2 ∧ (25 : Int) = 25) = true from rfl] at h2
        have hr := row_calls [u'] args (by omega) fun x hx w hw => hin x hx w (tBads_mem hbs (by simp at hw ⊢; simp [hw])) (by have := tysSize_mem (l := [u, u']) (x := w) (by simp at hw ⊢; simp [hw]); omega)
        generalize vRow args [u'] = z at hr
        refine QCalls.of Tryd.func83 rfl (fun args w => Tryd.call83 args w) (Nat.le_of_ble_eq_true rfl) [(0, .c (encTy (.mk 12 [u, u']))), (1, .c (encNd (.mk 2 N 25 S args)))] rfl fun β hβ => ?_; have hf := Tryd.func83
        refine AK.seq ?_
        refine AK.region Tryd.mixed rfl ?_
        repeat' (first | refine so ?_ | (refine uA rfl ?_ ?_ <;> (try (show (_ : Nat) * _ ≤ _; dsimp only))) | ((first | refine AOps.splitT rfl rfl rfl asm (fun h => ?_) | refine AOps.splitF rfl rfl rfl asm (fun h => ?_) | refine AOps.split rfl rfl rfl (fun h => ?_) (fun h => ?_)) <;> (fail_if_success (cases h; done)) <;> rw [h]))
        refine AK.freeze 3 rfl rfl rfl rfl ?_
        exact dq
      rw [vPar12c _ _ _ _ _ _ hi hj]
      have h1 := is_calls kind N P 24 S args
      have h2 := is_calls kind N P 25 S args
      rw [decide_eq_false hi] at h1
      rw [decide_eq_false hj] at h2
      refine QCalls.of Tryd.func83 rfl (fun args w => Tryd.call83 args w) (Nat.le_of_ble_eq_true rfl) [(0, .c (encTy (.mk 12 [u, u']))), (1, .c (encNd (.mk kind N P S args)))] rfl fun β hβ => ?_; have hf := Tryd.func83
      refine AK.seq ?_
      refine AK.region Tryd.mixed rfl ?_
      repeat' (first | refine so ?_ | (refine uA rfl ?_ ?_ <;> (try (show (_ : Nat) * _ ≤ _; dsimp only))) | ((first | refine AOps.splitT rfl rfl rfl asm (fun h => ?_) | refine AOps.splitF rfl rfl rfl asm (fun h => ?_) | refine AOps.split rfl rfl rfl (fun h => ?_) (fun h => ?_)) <;> (fail_if_success (cases h; done)) <;> rw [h]))
      refine AK.freeze 3 rfl rfl rfl rfl ?_
      exact dq
    by_cases c : T = 10
    · subst c
      obtain ⟨u, rfl⟩ := tlen1 (show ts.length = 1 by have : arity 10 = 1 := by decide
                                                      omega)
      rw [vPar10, ← int_eq]
      have hu : tBad u = false := tBads_mem hbs (by simp)
      have hus : tySize u ≤ 1048577 := by have := tysSize_mem (l := [u]) (x := u) (by simp); omega
      have g1 : [u][0]? = some u := rfl
      obtain ⟨U, us⟩ := u
      refine QCalls.of Tryd.func83 rfl (fun args w => Tryd.call83 args w) (Nat.le_of_ble_eq_true rfl) [(0, .c (encTy (.mk 10 [.mk U us]))), (1, .c (encNd (.mk kind N P S args)))] rfl fun β hβ => ?_; have hf := Tryd.func83
      refine AK.seq ?_
      refine AK.region Tryd.mixed rfl ?_
      repeat' (first | refine so ?_ | (refine uA rfl ?_ ?_ <;> (try (show (_ : Nat) * _ ≤ _; dsimp only))) | ((first | refine AOps.splitT rfl rfl rfl asm (fun h => ?_) | refine AOps.splitF rfl rfl rfl asm (fun h => ?_) | refine AOps.split rfl rfl rfl (fun h => ?_) (fun h => ?_)) <;> (fail_if_success (cases h; done)) <;> rw [h]))
      refine AK.freeze 3 rfl rfl rfl rfl ?_
      repeat' (first | refine st ?_ | (refine AK.condS rfl (fun h => ?_) (fun h => ?_) <;> first | (cases h; done) | rw [h] | skip) | refine uQ hf rfl rfl ?_ | (refine uA rfl ?_ ?_ <;> (try (show (_ : Nat) * _ ≤ _; dsimp only))) | ((first | refine AOps.splitT rfl rfl rfl asm (fun h => ?_) | refine AOps.splitF rfl rfl rfl asm (fun h => ?_) | refine AOps.split rfl rfl rfl (fun h => ?_) (fun h => ?_)) <;> (fail_if_success (cases h; done)) <;> rw [h]))
      refine AK.ren [(2, 2), (4, 4), (6, 6)] [(6004, (0, none))] (env' := [(139, .c (.int .i64 (0 : Nat))), (138, .c (.int .i64 (encNds args).length)), (137, .c (.sl 5 (encNds args))), (7, .c (.bool (kind == 3))), (2, .ptr 2 0), (4, .ptr 4 0), (6, .ptr 6 0)])
        (bs' := [(2, [.c (.int .i64 10), .c (.sl 2 (encTys [.mk U us]))]), (4, [.c (.int .i64 0), .c (.int .i64 0), .c (.int .i64 0), .c (.str []), .own .exact 7 [], .own .exact 2 [], .own .exact 5 []]), (6, [.c (.int .i64 10), .c (.int .i64 0), .c (.int .i64 0), .c (.str []), .own (.tok 6004 0) 7 [], .own .exact 2 [], .own .exact 5 []])]) (ts' := [(6004, 0)]) (us' := [2, 4, 6, 6004])
        ⟨⟨_, rfl, .inl rfl⟩, ⟨_, rfl, .inl rfl⟩, ⟨_, rfl, .inl rfl⟩, ⟨_, rfl, .inl rfl⟩, ⟨_, rfl, ⟨_, rfl, rfl⟩⟩, ⟨_, rfl, ⟨_, rfl, rfl⟩⟩, ⟨_, rfl, ⟨_, rfl, rfl⟩⟩, trivial⟩ ⟨⟨_, _, rfl, rfl, ⟨_, _, rfl, .inl rfl, ⟨_, _, rfl, .inl rfl, rfl⟩⟩⟩, ⟨_, _, rfl, rfl, ⟨_, _, rfl, .inl rfl, ⟨_, _, rfl, .inl rfl, ⟨_, _, rfl, .inl rfl, ⟨_, _, rfl, .inl rfl, ⟨_, _, rfl, rfl, ⟨_, _, rfl, rfl, ⟨_, _, rfl, rfl, rfl⟩⟩⟩⟩⟩⟩⟩⟩, ⟨_, _, rfl, rfl, ⟨_, _, rfl, .inl rfl, ⟨_, _, rfl, .inl rfl, ⟨_, _, rfl, .inl rfl, ⟨_, _, rfl, .inl rfl, ⟨_, _, rfl, ⟨_, rfl, .inl ⟨rfl, _, rfl, .inr rfl⟩⟩, ⟨_, _, rfl, rfl, ⟨_, _, rfl, rfl, rfl⟩⟩⟩⟩⟩⟩⟩⟩, trivial⟩ rfl ?_
      refine AK.loopE (α := Nat × List Vl × Bool) (fun z => z.1 ≤ args.length ∧ z.1 = z.2.1.length ∧ (vParAll args (.mk U us)).1 = z.2.1 ++ (vParAll (args.drop z.1) (.mk U us)).1 ∧ ((kind == 3) && (vParAll args (.mk U us)).2) = (z.2.2 && (vParAll (args.drop z.1) (.mk U us)).2)) (fun z => args.length - z.1)
        (fun z => [(139, .c (.int .i64 z.1)), (138, .c (.int .i64 (encNds args).length)), (137, .c (.sl 5 (encNds args))), (7, .c (.bool z.2.2)), (2, .ptr 2 0), (4, .ptr 4 0), (6, .ptr 6 0)]) (fun z => [(2, [.c (.int .i64 10), .c (.sl 2 (encTys [.mk U us]))]), (4, [.c (.int .i64 0), .c (.int .i64 0), .c (.int .i64 0), .c (.str []), .own .exact 7 [], .own .exact 2 [], .own .exact 5 []]), (6, [.c (.int .i64 10), .c (.int .i64 0), .c (.int .i64 0), .c (.str []), .own (.tok 6004 0) 7 (encVls z.2.1), .own .exact 2 [], .own .exact 5 []])]) (fun _ => [(6004, 0)]) [2, 4, 6, 6004] (0, [], (kind == 3))
        ⟨by omega, rfl, by simp, rfl⟩ ⟨.inl rfl, .inl rfl, .inl rfl, .inl rfl, .inl rfl, .inl rfl, .inl rfl, trivial⟩ ⟨rfl, rfl, rfl, trivial⟩ ⟨rfl, trivial⟩ rfl rfl rfl ?_
      rintro ⟨i, acc, okb⟩ ⟨hi, hia, hinv, hinvb⟩ ih
      simp only at hi hia hinv hinvb
      rcases get_or args i hi with ⟨x, hx, hm⟩ | he
      rotate_left
      · have hc := nds_end he
        rw [he, List.drop_length, vParAll_nil] at hinv hinvb
        simp only [List.append_nil, Bool.and_true] at hinv hinvb
        rw [hinv, hinvb]
        clear ih hinv hinvb
        exact dq
      have hc := nds_lt hx
      have h2 := lt_of_get hx
      have hq := hin x hm (.mk U us) hu hus
      rw [drop_at hx, vParAll_cons] at hinv hinvb
      rcases hr : vPar x (.mk U us) with ⟨⟨y1, y2, y3, y4, y5, y6, y7⟩, good⟩
      rw [hr] at hq hinv hinvb
      simp only at hq hinv hinvb
      rw [show ∀ (a : List Vl) (b : Vl) (c : List Vl), a ++ b :: c = a ++ [b] ++ c from fun a b c => by simp] at hinv
      obtain ⟨xk, xn, xp, xs, xa⟩ := x
      cases okb with
      | false =>
        repeat' (first | refine st ?_ | (refine AK.condS rfl (fun h => ?_) (fun h => ?_) <;> first | (cases h; done) | rw [h] | skip) | refine uQ hf rfl rfl ?_ | refine uI rfl (i) rfl (nds_at hx) rfl ?_ | refine uI rfl (0) rfl (tys_at g1) rfl ?_ | refine uC rfl hq ?_ | (refine uA rfl ?_ ?_ <;> (try (show (_ : Nat) * _ ≤ _; dsimp only))) | ((first | refine AOps.splitT rfl rfl rfl asm (fun h => ?_) | refine AOps.splitF rfl rfl rfl asm (fun h => ?_) | refine AOps.split rfl rfl rfl (fun h => ?_) (fun h => ?_)) <;> (fail_if_success (cases h; done)) <;> rw [h]))
        · have h1 := encVls_length acc
          simp only [List.length_cons, List.length_nil]
          omega
        · have hap : encVls acc ++ [encVl (Vl.mk y1 y2 y3 y4 y5 y6 y7)] = encVls (acc ++ [(Vl.mk y1 y2 y3 y4 y5 y6 y7)]) := (encVls_append acc [_]).symm
          refine AK.ren [(2, 2), (4, 4), (6, 6)] [(6004, (0, some 6004))] (env' := [(139, .c (.int .i64 ((i + 1 : Nat) : Int))), (138, .c (.int .i64 (encNds args).length)), (137, .c (.sl 5 (encNds args))), (7, .c (.bool false)), (2, .ptr 2 0), (4, .ptr 4 0), (6, .ptr 6 0)])
            (bs' := [(2, [.c (.int .i64 10), .c (.sl 2 (encTys [.mk U us]))]), (4, [.c (.int .i64 0), .c (.int .i64 0), .c (.int .i64 0), .c (.str []), .own .exact 7 [], .own .exact 2 [], .own .exact 5 []]), (6, [.c (.int .i64 10), .c (.int .i64 0), .c (.int .i64 0), .c (.str []), .own (.tok 6004 0) 7 (encVls (acc ++ [(Vl.mk y1 y2 y3 y4 y5 y6 y7)])), .own .exact 2 [], .own .exact 5 []])]) (ts' := [(6004, 0)]) (us' := [2, 4, 6, 6004])
            ⟨⟨_, rfl, .inl (succ64' (i := i) (by omega))⟩, ⟨_, rfl, .inl rfl⟩, ⟨_, rfl, .inl rfl⟩, ⟨_, rfl, .inl rfl⟩, ⟨_, rfl, ⟨_, rfl, rfl⟩⟩, ⟨_, rfl, ⟨_, rfl, rfl⟩⟩, ⟨_, rfl, ⟨_, rfl, rfl⟩⟩, trivial⟩ ⟨⟨_, _, rfl, rfl, ⟨_, _, rfl, .inl rfl, ⟨_, _, rfl, .inl rfl, rfl⟩⟩⟩, ⟨_, _, rfl, rfl, ⟨_, _, rfl, .inl rfl, ⟨_, _, rfl, .inl rfl, ⟨_, _, rfl, .inl rfl, ⟨_, _, rfl, .inl rfl, ⟨_, _, rfl, rfl, ⟨_, _, rfl, rfl, ⟨_, _, rfl, rfl, rfl⟩⟩⟩⟩⟩⟩⟩⟩, ⟨_, _, rfl, rfl, ⟨_, _, rfl, .inl rfl, ⟨_, _, rfl, .inl rfl, ⟨_, _, rfl, .inl rfl, ⟨_, _, rfl, .inl rfl, ⟨_, _, rfl, ⟨_, rfl, .inr ⟨_, _, rfl, rfl, congrArg (AV.own (.tok 6004 1) 7) hap⟩⟩, ⟨_, _, rfl, rfl, ⟨_, _, rfl, rfl, rfl⟩⟩⟩⟩⟩⟩⟩⟩, trivial⟩ rfl ?_
          exact ih (i + 1, acc ++ [(Vl.mk y1 y2 y3 y4 y5 y6 y7)], false) ⟨h2, by simp [hia], hinv, (by simpa using hinvb)⟩ (by show args.length - (i + 1) < args.length - i; omega)
      | true =>
        repeat' (first | refine st ?_ | (refine AK.condS rfl (fun h => ?_) (fun h => ?_) <;> first | (cases h; done) | rw [h] | skip) | refine uQ hf rfl rfl ?_ | refine uI rfl (i) rfl (nds_at hx) rfl ?_ | refine uI rfl (0) rfl (tys_at g1) rfl ?_ | refine uC rfl hq ?_ | (refine uA rfl ?_ ?_ <;> (try (show (_ : Nat) * _ ≤ _; dsimp only))) | ((first | refine AOps.splitT rfl rfl rfl asm (fun h => ?_) | refine AOps.splitF rfl rfl rfl asm (fun h => ?_) | refine AOps.split rfl rfl rfl (fun h => ?_) (fun h => ?_)) <;> (fail_if_success (cases h; done)) <;> rw [h]))
        · have h1 := encVls_length acc
          simp only [List.length_cons, List.length_nil]
          omega
        · have hap : encVls acc ++ [encVl (Vl.mk y1 y2 y3 y4 y5 y6 y7)] = encVls (acc ++ [(Vl.mk y1 y2 y3 y4 y5 y6 y7)]) := (encVls_append acc [_]).symm
          refine AK.ren [(2, 2), (4, 4), (6, 6)] [(6004, (0, some 6004))] (env' := [(139, .c (.int .i64 ((i + 1 : Nat) : Int))), (138, .c (.int .i64 (encNds args).length)), (137, .c (.sl 5 (encNds args))), (7, .c (.bool good)), (2, .ptr 2 0), (4, .ptr 4 0), (6, .ptr 6 0)])
            (bs' := [(2, [.c (.int .i64 10), .c (.sl 2 (encTys [.mk U us]))]), (4, [.c (.int .i64 0), .c (.int .i64 0), .c (.int .i64 0), .c (.str []), .own .exact 7 [], .own .exact 2 [], .own .exact 5 []]), (6, [.c (.int .i64 10), .c (.int .i64 0), .c (.int .i64 0), .c (.str []), .own (.tok 6004 0) 7 (encVls (acc ++ [(Vl.mk y1 y2 y3 y4 y5 y6 y7)])), .own .exact 2 [], .own .exact 5 []])]) (ts' := [(6004, 0)]) (us' := [2, 4, 6, 6004])
            ⟨⟨_, rfl, .inl (succ64' (i := i) (by omega))⟩, ⟨_, rfl, .inl rfl⟩, ⟨_, rfl, .inl rfl⟩, ⟨_, rfl, .inl rfl⟩, ⟨_, rfl, ⟨_, rfl, rfl⟩⟩, ⟨_, rfl, ⟨_, rfl, rfl⟩⟩, ⟨_, rfl, ⟨_, rfl, rfl⟩⟩, trivial⟩ ⟨⟨_, _, rfl, rfl, ⟨_, _, rfl, .inl rfl, ⟨_, _, rfl, .inl rfl, rfl⟩⟩⟩, ⟨_, _, rfl, rfl, ⟨_, _, rfl, .inl rfl, ⟨_, _, rfl, .inl rfl, ⟨_, _, rfl, .inl rfl, ⟨_, _, rfl, .inl rfl, ⟨_, _, rfl, rfl, ⟨_, _, rfl, rfl, ⟨_, _, rfl, rfl, rfl⟩⟩⟩⟩⟩⟩⟩⟩, ⟨_, _, rfl, rfl, ⟨_, _, rfl, .inl rfl, ⟨_, _, rfl, .inl rfl, ⟨_, _, rfl, .inl rfl, ⟨_, _, rfl, .inl rfl, ⟨_, _, rfl, ⟨_, rfl, .inr ⟨_, _, rfl, rfl, congrArg (AV.own (.tok 6004 1) 7) hap⟩⟩, ⟨_, _, rfl, rfl, ⟨_, _, rfl, rfl, rfl⟩⟩⟩⟩⟩⟩⟩⟩, trivial⟩ rfl ?_
          exact ih (i + 1, acc ++ [(Vl.mk y1 y2 y3 y4 y5 y6 y7)], good) ⟨h2, by simp [hia], hinv, (by simpa using hinvb)⟩ (by show args.length - (i + 1) < args.length - i; omega)
    by_cases c : T = 13
    · subst c
      rw [vPar13, ← int_eq]
      refine QCalls.of Tryd.func83 rfl (fun args w => Tryd.call83 args w) (Nat.le_of_ble_eq_true rfl) [(0, .c (encTy (.mk 13 ts))), (1, .c (encNd (.mk kind N P S args)))] rfl fun β hβ => ?_; have hf := Tryd.func83
      refine AK.seq ?_
      refine AK.region Tryd.mixed rfl ?_
      repeat' (first | refine so ?_ | (refine uA rfl ?_ ?_ <;> (try (show (_ : Nat) * _ ≤ _; dsimp only))) | ((first | refine AOps.splitT rfl rfl rfl asm (fun h => ?_) | refine AOps.splitF rfl rfl rfl asm (fun h => ?_) | refine AOps.split rfl rfl rfl (fun h => ?_) (fun h => ?_)) <;> (fail_if_success (cases h; done)) <;> rw [h]))
      refine AK.freeze 3 rfl rfl rfl rfl ?_
      repeat' (first | refine st ?_ | (refine AK.condS rfl (fun h => ?_) (fun h => ?_) <;> first | (cases h; done) | rw [h] | skip) | refine uQ hf rfl rfl ?_ | (refine uA rfl ?_ ?_ <;> (try (show (_ : Nat) * _ ≤ _; dsimp only))) | ((first | refine AOps.splitT rfl rfl rfl asm (fun h => ?_) | refine AOps.splitF rfl rfl rfl asm (fun h => ?_) | refine AOps.split rfl rfl rfl (fun h => ?_) (fun h => ?_)) <;> (fail_if_success (cases h; done)) <;> rw [h]))
      refine AK.ren [(2, 2), (4, 4), (6, 6)] [(6004, (0, none))] (env' := [(171, .c (.int .i64 (0 : Nat))), (170, .c (.int .i64 (encNds args).length)), (169, .c (.sl 5 (encNds args))), (7, .c (.bool (kind == 3))), (2, .ptr 2 0), (4, .ptr 4 0), (6, .ptr 6 0)])
        (bs' := [(2, [.c (.int .i64 13), .c (.sl 2 (encTys ts))]), (4, [.c (.int .i64 0), .c (.int .i64 0), .c (.int .i64 0), .c (.str []), .own .exact 7 [], .own .exact 2 [], .own .exact 5 []]), (6, [.c (.int .i64 13), .c (.int .i64 0), .c (.int .i64 0), .c (.str []), .own (.tok 6004 0) 7 [], .own .exact 2 [], .own .exact 5 []])]) (ts' := [(6004, 0)]) (us' := [2, 4, 6, 6004])
        ⟨⟨_, rfl, .inl rfl⟩, ⟨_, rfl, .inl rfl⟩, ⟨_, rfl, .inl rfl⟩, ⟨_, rfl, .inl rfl⟩, ⟨_, rfl, ⟨_, rfl, rfl⟩⟩, ⟨_, rfl, ⟨_, rfl, rfl⟩⟩, ⟨_, rfl, ⟨_, rfl, rfl⟩⟩, trivial⟩ ⟨⟨_, _, rfl, rfl, ⟨_, _, rfl, .inl rfl, ⟨_, _, rfl, .inl rfl, rfl⟩⟩⟩, ⟨_, _, rfl, rfl, ⟨_, _, rfl, .inl rfl, ⟨_, _, rfl, .inl rfl, ⟨_, _, rfl, .inl rfl, ⟨_, _, rfl, .inl rfl, ⟨_, _, rfl, rfl, ⟨_, _, rfl, rfl, ⟨_, _, rfl, rfl, rfl⟩⟩⟩⟩⟩⟩⟩⟩, ⟨_, _, rfl, rfl, ⟨_, _, rfl, .inl rfl, ⟨_, _, rfl, .inl rfl, ⟨_, _, rfl, .inl rfl, ⟨_, _, rfl, .inl rfl, ⟨_, _, rfl, ⟨_, rfl, .inl ⟨rfl, _, rfl, .inr rfl⟩⟩, ⟨_, _, rfl, rfl, ⟨_, _, rfl, rfl, rfl⟩⟩⟩⟩⟩⟩⟩⟩, trivial⟩ rfl ?_
      refine AK.loopE (α := Nat × List Vl × Bool) (fun z => z.1 ≤ args.length ∧ z.1 = z.2.1.length ∧ (vParMap args ts).1 = z.2.1 ++ (vParMap (args.drop z.1) ts).1 ∧ ((kind == 3) && (vParMap args ts).2) = (z.2.2 && (vParMap (args.drop z.1) ts).2)) (fun z => args.length - z.1)
        (fun z => [(171, .c (.int .i64 z.1)), (170, .c (.int .i64 (encNds args).length)), (169, .c (.sl 5 (encNds args))), (7, .c (.bool z.2.2)), (2, .ptr 2 0), (4, .ptr 4 0), (6, .ptr 6 0)]) (fun z => [(2, [.c (.int .i64 13), .c (.sl 2 (encTys ts))]), (4, [.c (.int .i64 0), .c (.int .i64 0), .c (.int .i64 0), .c (.str []), .own .exact 7 [], .own .exact 2 [], .own .exact 5 []]), (6, [.c (.int .i64 13), .c (.int .i64 0), .c (.int .i64 0), .c (.str []), .own (.tok 6004 0) 7 (encVls z.2.1), .own .exact 2 [], .own .exact 5 []])]) (fun _ => [(6004, 0)]) [2, 4, 6, 6004] (0, [], (kind == 3))
        ⟨by omega, rfl, by simp, rfl⟩ ⟨.inl rfl, .inl rfl, .inl rfl, .inl rfl, .inl rfl, .inl rfl, .inl rfl, trivial⟩ ⟨rfl, rfl, rfl, trivial⟩ ⟨rfl, trivial⟩ rfl rfl rfl ?_
      rintro ⟨i, acc, okb⟩ ⟨hi, hia, hinv, hinvb⟩ ih
      simp only at hi hia hinv hinvb
      rcases get_or args i hi with ⟨x, hx, hm⟩ | he
      rotate_left
      · have hc := nds_end he
        rw [he, List.drop_length, vParMap_nil] at hinv hinvb
        simp only [List.append_nil, Bool.and_true] at hinv hinvb
        rw [hinv, hinvb]
        clear ih hinv hinvb
        exact dq
      have hc := nds_lt hx
      have h2 := lt_of_get hx
      obtain ⟨xk, xn, xp, xs, xa⟩ := x
      have hxs := ndsSize_mem hm
      simp only [ndSize] at hxs
      have hxl := ndsSize_len xa
      have hq := row_calls ts xa (by omega) fun y hy u hu => hin2 xk xn xp xs xa hm y hy u (tBads_mem hbs hu) (by have := tysSize_mem hu; omega)
      rw [drop_at hx, vParMap_cons] at hinv hinvb
      rcases hr : vRow xa ts with ⟨q, good⟩
      rw [hr] at hq hinv hinvb
      simp only at hq hinv hinvb
      rw [show ∀ (a : List Vl) (b : Vl) (c : List Vl), a ++ b :: c = a ++ [b] ++ c from fun a b c => by simp] at hinv
      cases okb with
      | false =>
        repeat' (first | refine st ?_ | (refine AK.condS rfl (fun h => ?_) (fun h => ?_) <;> first | (cases h; done) | rw [h] | skip) | refine uQ hf rfl rfl ?_ | refine uI rfl (i) rfl (nds_at hx) rfl ?_ | refine uC rfl hq ?_ | (refine uA rfl ?_ ?_ <;> (try (show (_ : Nat) * _ ≤ _; dsimp only))) | ((first | refine AOps.splitT rfl rfl rfl asm (fun h => ?_) | refine AOps.splitF rfl rfl rfl asm (fun h => ?_) | refine AOps.split rfl rfl rfl (fun h => ?_) (fun h => ?_)) <;> (fail_if_success (cases h; done)) <;> rw [h]))
        · have h1 := encVls_length acc
          simp only [List.length_cons, List.length_nil]
          omega
        · have hap : encVls acc ++ [encVl (Vl.mk 11 0 0 [] q [] [])] = encVls (acc ++ [(Vl.mk 11 0 0 [] q [] [])]) := (encVls_append acc [_]).symm
          refine AK.ren [(2, 2), (4, 4), (6, 6)] [(6004, (0, some 6004))] (env' := [(171, .c (.int .i64 ((i + 1 : Nat) : Int))), (170, .c (.int .i64 (encNds args).length)), (169, .c (.sl 5 (encNds args))), (7, .c (.bool false)), (2, .ptr 2 0), (4, .ptr 4 0), (6, .ptr 6 0)])
            (bs' := [(2, [.c (.int .i64 13), .c (.sl 2 (encTys ts))]), (4, [.c (.int .i64 0), .c (.int .i64 0), .c (.int .i64 0), .c (.str []), .own .exact 7 [], .own .exact 2 [], .own .exact 5 []]), (6, [.c (.int .i64 13), .c (.int .i64 0), .c (.int .i64 0), .c (.str []), .own (.tok 6004 0) 7 (encVls (acc ++ [(Vl.mk 11 0 0 [] q [] [])])), .own .exact 2 [], .own .exact 5 []])]) (ts' := [(6004, 0)]) (us' := [2, 4, 6, 6004])
            ⟨⟨_, rfl, .inl (succ64' (i := i) (by omega))⟩, ⟨_, rfl, .inl rfl⟩, ⟨_, rfl, .inl rfl⟩, ⟨_, rfl, .inl rfl⟩, ⟨_, rfl, ⟨_, rfl, rfl⟩⟩, ⟨_, rfl, ⟨_, rfl, rfl⟩⟩, ⟨_, rfl, ⟨_, rfl, rfl⟩⟩, trivial⟩ ⟨⟨_, _, rfl, rfl, ⟨_, _, rfl, .inl rfl, ⟨_, _, rfl, .inl rfl, rfl⟩⟩⟩, ⟨_, _, rfl, rfl, ⟨_, _, rfl, .inl rfl, ⟨_, _, rfl, .inl rfl, ⟨_, _, rfl, .inl rfl, ⟨_, _, rfl, .inl rfl, ⟨_, _, rfl, rfl, ⟨_, _, rfl, rfl, ⟨_, _, rfl, rfl, rfl⟩⟩⟩⟩⟩⟩⟩⟩, ⟨_, _, rfl, rfl, ⟨_, _, rfl, .inl rfl, ⟨_, _, rfl, .inl rfl, ⟨_, _, rfl, .inl rfl, ⟨_, _, rfl, .inl rfl, ⟨_, _, rfl, ⟨_, rfl, .inr ⟨_, _, rfl, rfl, congrArg (AV.own (.tok 6004 1) 7) hap⟩⟩, ⟨_, _, rfl, rfl, ⟨_, _, rfl, rfl, rfl⟩⟩⟩⟩⟩⟩⟩⟩, trivial⟩ rfl ?_
          exact ih (i + 1, acc ++ [(Vl.mk 11 0 0 [] q [] [])], false) ⟨h2, by simp [hia], hinv, (by simpa using hinvb)⟩ (by show args.length - (i + 1) < args.length - i; omega)
      | true =>
        cases good with
        | false =>
          repeat' (first | refine st ?_ | (refine AK.condS rfl (fun h => ?_) (fun h => ?_) <;> first | (cases h; done) | rw [h] | skip) | refine uQ hf rfl rfl ?_ | refine uI rfl (i) rfl (nds_at hx) rfl ?_ | refine uC rfl hq ?_ | (refine uA rfl ?_ ?_ <;> (try (show (_ : Nat) * _ ≤ _; dsimp only))) | ((first | refine AOps.splitT rfl rfl rfl asm (fun h => ?_) | refine AOps.splitF rfl rfl rfl asm (fun h => ?_) | refine AOps.split rfl rfl rfl (fun h => ?_) (fun h => ?_)) <;> (fail_if_success (cases h; done)) <;> rw [h]))
          · have h1 := encVls_length acc
            simp only [List.length_cons, List.length_nil]
            omega
          · have hap : encVls acc ++ [encVl (Vl.mk 11 0 0 [] q [] [])] = encVls (acc ++ [(Vl.mk 11 0 0 [] q [] [])]) := (encVls_append acc [_]).symm
            refine AK.ren [(2, 2), (4, 4), (6, 6)] [(6004, (0, some 6004))] (env' := [(171, .c (.int .i64 ((i + 1 : Nat) : Int))), (170, .c (.int .i64 (encNds args).length)), (169, .c (.sl 5 (encNds args))), (7, .c (.bool false)), (2, .ptr 2 0), (4, .ptr 4 0), (6, .ptr 6 0)])
              (bs' := [(2, [.c (.int .i64 13), .c (.sl 2 (encTys ts))]), (4, [.c (.int .i64 0), .c (.int .i64 0), .c (.int .i64 0), .c (.str []), .own .exact 7 [], .own .exact 2 [], .own .exact 5 []]), (6, [.c (.int .i64 13), .c (.int .i64 0), .c (.int .i64 0), .c (.str []), .own (.tok 6004 0) 7 (encVls (acc ++ [(Vl.mk 11 0 0 [] q [] [])])), .own .exact 2 [], .own .exact 5 []])]) (ts' := [(6004, 0)]) (us' := [2, 4, 6, 6004])
              ⟨⟨_, rfl, .inl (succ64' (i := i) (by omega))⟩, ⟨_, rfl, .inl rfl⟩, ⟨_, rfl, .inl rfl⟩, ⟨_, rfl, .inl rfl⟩, ⟨_, rfl, ⟨_, rfl, rfl⟩⟩, ⟨_, rfl, ⟨_, rfl, rfl⟩⟩, ⟨_, rfl, ⟨_, rfl, rfl⟩⟩, trivial⟩ ⟨⟨_, _, rfl, rfl, ⟨_, _, rfl, .inl rfl, ⟨_, _, rfl, .inl rfl, rfl⟩⟩⟩, ⟨_, _, rfl, rfl, ⟨_, _, rfl, .inl rfl, ⟨_, _, rfl, .inl rfl, ⟨_, _, rfl, .inl rfl, ⟨_, _, rfl, .inl rfl, ⟨_, _, rfl, rfl, ⟨_, _, rfl, rfl, ⟨_, _, rfl, rfl, rfl⟩⟩⟩⟩⟩⟩⟩⟩, ⟨_, _, rfl, rfl, ⟨_, _, rfl, .inl rfl, ⟨_, _, rfl, .inl rfl, ⟨_, _, rfl, .inl rfl, ⟨_, _, rfl, .inl rfl, ⟨_, _, rfl, ⟨_, rfl, .inr ⟨_, _, rfl, rfl, congrArg (AV.own (.tok 6004 1) 7) hap⟩⟩, ⟨_, _, rfl, rfl, ⟨_, _, rfl, rfl, rfl⟩⟩⟩⟩⟩⟩⟩⟩, trivial⟩ rfl ?_
            exact ih (i + 1, acc ++ [(Vl.mk 11 0 0 [] q [] [])], false) ⟨h2, by simp [hia], hinv, (by simpa using hinvb)⟩ (by show args.length - (i + 1) < args.length - i; omega)
        | true =>
          by_cases k2 : xk = 2
          rotate_left
          · have e2 : (xk == 2) = false := by simpa using k2
            have hb' : ((kind == 3) && (vParMap args ts).2) = (false && (vParMap (args.drop (i + 1)) ts).2) := by rw [hinvb]; simp [k2]
            repeat' (first | refine st ?_ | (refine AK.condS rfl (fun h => ?_) (fun h => ?_) <;> first | (cases h; done) | rw [h] | skip) | refine uQ hf rfl rfl ?_ | refine uI rfl (i) rfl (nds_at hx) rfl ?_ | refine uC rfl hq ?_ | (refine uA rfl ?_ ?_ <;> (try (show (_ : Nat) * _ ≤ _; dsimp only))) | ((first | refine AOps.splitT rfl rfl rfl asm (fun h => ?_) | refine AOps.splitF rfl rfl rfl asm (fun h => ?_) | refine AOps.split rfl rfl rfl (fun h => ?_) (fun h => ?_)) <;> (fail_if_success (cases h; done)) <;> rw [h]))
            · have h1 := encVls_length acc
              simp only [List.length_cons, List.length_nil]
              omega
            · have hap : encVls acc ++ [encVl (Vl.mk 11 0 0 [] q [] [])] = encVls (acc ++ [(Vl.mk 11 0 0 [] q [] [])]) := (encVls_append acc [_]).symm
              refine AK.ren [(2, 2), (4, 4), (6, 6)] [(6004, (0, some 6004))] (env' := [(171, .c (.int .i64 ((i + 1 : Nat) : Int))), (170, .c (.int .i64 (encNds args).length)), (169, .c (.sl 5 (encNds args))), (7, .c (.bool false)), (2, .ptr 2 0), (4, .ptr 4 0), (6, .ptr 6 0)])
                (bs' := [(2, [.c (.int .i64 13), .c (.sl 2 (encTys ts))]), (4, [.c (.int .i64 0), .c (.int .i64 0), .c (.int .i64 0), .c (.str []), .own .exact 7 [], .own .exact 2 [], .own .exact 5 []]), (6, [.c (.int .i64 13), .c (.int .i64 0), .c (.int .i64 0), .c (.str []), .own (.tok 6004 0) 7 (encVls (acc ++ [(Vl.mk 11 0 0 [] q [] [])])), .own .exact 2 [], .own .exact 5 []])]) (ts' := [(6004, 0)]) (us' := [2, 4, 6, 6004])
                ⟨⟨_, rfl, .inl (succ64' (i := i) (by omega))⟩, ⟨_, rfl, .inl rfl⟩, ⟨_, rfl, .inl rfl⟩, ⟨_, rfl, .inl rfl⟩, ⟨_, rfl, ⟨_, rfl, rfl⟩⟩, ⟨_, rfl, ⟨_, rfl, rfl⟩⟩, ⟨_, rfl, ⟨_, rfl, rfl⟩⟩, trivial⟩ ⟨⟨_, _, rfl, rfl, ⟨_, _, rfl, .inl rfl, ⟨_, _, rfl, .inl rfl, rfl⟩⟩⟩, ⟨_, _, rfl, rfl, ⟨_, _, rfl, .inl rfl, ⟨_, _, rfl, .inl rfl, ⟨_, _, rfl, .inl rfl, ⟨_, _, rfl, .inl rfl, ⟨_, _, rfl, rfl, ⟨_, _, rfl, rfl, ⟨_, _, rfl, rfl, rfl⟩⟩⟩⟩⟩⟩⟩⟩, ⟨_, _, rfl, rfl, ⟨_, _, rfl, .inl rfl, ⟨_, _, rfl, .inl rfl, ⟨_, _, rfl, .inl rfl, ⟨_, _, rfl, .inl rfl, ⟨_, _, rfl, ⟨_, rfl, .inr ⟨_, _, rfl, rfl, congrArg (AV.own (.tok 6004 1) 7) hap⟩⟩, ⟨_, _, rfl, rfl, ⟨_, _, rfl, rfl, rfl⟩⟩⟩⟩⟩⟩⟩⟩, trivial⟩ rfl ?_
              exact ih (i + 1, acc ++ [(Vl.mk 11 0 0 [] q [] [])], false) ⟨h2, by simp [hia], hinv, hb'⟩ (by show args.length - (i + 1) < args.length - i; omega)
          subst k2
          have hb' : ((kind == 3) && (vParMap args ts).2) = ((xp == 28) && (vParMap (args.drop (i + 1)) ts).2) := by rw [hinvb, int_eq]; simp
          repeat' (first | refine st ?_ | (refine AK.condS rfl (fun h => ?_) (fun h => ?_) <;> first | (cases h; done) | rw [h] | skip) | refine uQ hf rfl rfl ?_ | refine uI rfl (i) rfl (nds_at hx) rfl ?_ | refine uC rfl hq ?_ | (refine uA rfl ?_ ?_ <;> (try (show (_ : Nat) * _ ≤ _; dsimp only))) | ((first | refine AOps.splitT rfl rfl rfl asm (fun h => ?_) | refine AOps.splitF rfl rfl rfl asm (fun h => ?_) | refine AOps.split rfl rfl rfl (fun h => ?_) (fun h => ?_)) <;> (fail_if_success (cases h; done)) <;> rw [h]))
          · have h1 := encVls_length acc
            simp only [List.length_cons, List.length_nil]
            omega
          · have hap : encVls acc ++ [encVl (Vl.mk 11 0 0 [] q [] [])] = encVls (acc ++ [(Vl.mk 11 0 0 [] q [] [])]) := (encVls_append acc [_]).symm
            refine AK.ren [(2, 2), (4, 4), (6, 6)] [(6004, (0, some 6004))] (env' := [(171, .c (.int .i64 ((i + 1 : Nat) : Int))), (170, .c (.int .i64 (encNds args).length)), (169, .c (.sl 5 (encNds args))), (7, .c (.bool (xp == 28))), (2, .ptr 2 0), (4, .ptr 4 0), (6, .ptr 6 0)])
              (bs' := [(2, [.c (.int .i64 13), .c (.sl 2 (encTys ts))]), (4, [.c (.int .i64 0), .c (.int .i64 0), .c (.int .i64 0), .c (.str []), .own .exact 7 [], .own .exact 2 [], .own .exact 5 []]), (6, [.c (.int .i64 13), .c (.int .i64 0), .c (.int .i64 0), .c (.str []), .own (.tok 6004 0) 7 (encVls (acc ++ [(Vl.mk 11 0 0 [] q [] [])])), .own .exact 2 [], .own .exact 5 []])]) (ts' := [(6004, 0)]) (us' := [2, 4, 6, 6004])
              ⟨⟨_, rfl, .inl (succ64' (i := i) (by omega))⟩, ⟨_, rfl, .inl rfl⟩, ⟨_, rfl, .inl rfl⟩, ⟨_, rfl, .inl rfl⟩, ⟨_, rfl, ⟨_, rfl, rfl⟩⟩, ⟨_, rfl, ⟨_, rfl, rfl⟩⟩, ⟨_, rfl, ⟨_, rfl, rfl⟩⟩, trivial⟩ ⟨⟨_, _, rfl, rfl, ⟨_, _, rfl, .inl rfl, ⟨_, _, rfl, .inl rfl, rfl⟩⟩⟩, ⟨_, _, rfl, rfl, ⟨_, _, rfl, .inl rfl, ⟨_, _, rfl, .inl rfl, ⟨_, _, rfl, .inl rfl, ⟨_, _, rfl, .inl rfl, ⟨_, _, rfl, rfl, ⟨_, _, rfl, rfl, ⟨_, _, rfl, rfl, rfl⟩⟩⟩⟩⟩⟩⟩⟩, ⟨_, _, rfl, rfl, ⟨_, _, rfl, .inl rfl, ⟨_, _, rfl, .inl rfl, ⟨_, _, rfl, .inl rfl, ⟨_, _, rfl, .inl rfl, ⟨_, _, rfl, ⟨_, rfl, .inr ⟨_, _, rfl, rfl, congrArg (AV.own (.tok 6004 1) 7) hap⟩⟩, ⟨_, _, rfl, rfl, ⟨_, _, rfl, rfl, rfl⟩⟩⟩⟩⟩⟩⟩⟩, trivial⟩ rfl ?_
            exact ih (i + 1, acc ++ [(Vl.mk 11 0 0 [] q [] [])], (xp == 28)) ⟨h2, by simp [hia], hinv, hb'⟩ (by show args.length - (i + 1) < args.length - i; omega)
    have hT : T = 8 ∨ T = 14 ∨ T = 15 := by have := arity_in har; omega
    rw [vParX T kind N P hT]
    rcases hT with rfl | rfl | rfl
    · refine QCalls.of Tryd.func83 rfl (fun args w => Tryd.call83 args w) (Nat.le_of_ble_eq_true rfl) [(0, .c (encTy (.mk 8 ts))), (1, .c (encNd (.mk kind N P S args)))] rfl fun β hβ => ?_; have hf := Tryd.func83
      refine AK.seq ?_
      refine AK.region Tryd.mixed rfl ?_
      repeat' (first | refine so ?_ | (refine uA rfl ?_ ?_ <;> (try (show (_ : Nat) * _ ≤ _; dsimp only))) | ((first | refine AOps.splitT rfl rfl rfl asm (fun h => ?_) | refine AOps.splitF rfl rfl rfl asm (fun h => ?_) | refine AOps.split rfl rfl rfl (fun h => ?_) (fun h => ?_)) <;> (fail_if_success (cases h; done)) <;> rw [h]))
      refine AK.freeze 3 rfl rfl rfl rfl ?_
      exact dq
    · refine QCalls.of Tryd.func83 rfl (fun args w => Tryd.call83 args w) (Nat.le_of_ble_eq_true rfl) [(0, .c (encTy (.mk 14 ts))), (1, .c (encNd (.mk kind N P S args)))] rfl fun β hβ => ?_; have hf := Tryd.func83
      refine AK.seq ?_
      refine AK.region Tryd.mixed rfl ?_
      repeat' (first | refine so ?_ | (refine uA rfl ?_ ?_ <;> (try (show (_ : Nat) * _ ≤ _; dsimp only))) | ((first | refine AOps.splitT rfl rfl rfl asm (fun h => ?_) | refine AOps.splitF rfl rfl rfl asm (fun h => ?_) | refine AOps.split rfl rfl rfl (fun h => ?_) (fun h => ?_)) <;> (fail_if_success (cases h; done)) <;> rw [h]))
      refine AK.freeze 3 rfl rfl rfl rfl ?_
      exact dq
    · refine QCalls.of Tryd.func83 rfl (fun args w => Tryd.call83 args w) (Nat.le_of_ble_eq_true rfl) [(0, .c (encTy (.mk 15 ts))), (1, .c (encNd (.mk kind N P S args)))] rfl fun β hβ => ?_; have hf := Tryd.func83
      refine AK.seq ?_
      refine AK.region Tryd.mixed rfl ?_
      repeat' (first | refine so ?_ | (refine uA rfl ?_ ?_ <;> (try (show (_ : Nat) * _ ≤ _; dsimp only))) | ((first | refine AOps.splitT rfl rfl rfl asm (fun h => ?_) | refine AOps.splitF rfl rfl rfl asm (fun h => ?_) | refine AOps.split rfl rfl rfl (fun h => ?_) (fun h => ?_)) <;> (fail_if_success (cases h; done)) <;> rw [h]))
      refine AK.freeze 3 rfl rfl rfl rfl ?_
      exact dq
termination_by n => SizeOf.sizeOf n
decreasing_by
  · have h1 := List.sizeOf_lt_of_mem hx
    simp at h1 ⊢; omega
  · have h1 := List.sizeOf_lt_of_mem hx
    have h2 := List.sizeOf_lt_of_mem hy
    simp at h1 h2 ⊢; omega
end Go.Proofs

-- WIDE
-- OLDASM
set_option linter.unusedVariables false
set_option linter.unusedSimpArgs false
namespace Go.Proofs
open Go.Abs

theorem rows1 (rows : List CV) (l : List UInt8) (b : UInt8) (z : Int) (h : z = (b.toNat : Int)) : rows ++ byteRows l ++ [CV.int .u8 z] = rows ++ byteRows (l ++ [b]) := by
  subst h; simp [byteRows]
attribute [local irreducible] AK AOps QCalls ECalls

end Go.Proofs

set_option linter.unusedVariables false
set_option linter.unusedSimpArgs false
namespace Go.Abs
section
variable {P : Program} {X : Ctx} {f : FuncId} {n : Nat} {β : Base} {R : Ending → World → Prop} {K : List Item} {env : Env}
end
end Go.Abs

set_option linter.unusedVariables false
set_option linter.unusedSimpArgs false
namespace Go.Abs

/-- What number gives, what it leaves, whether it went wrong. -/
def numVal : List UInt8 → Int
  | [] => 0
  | b :: s => match takeFirst b s with
    | none => 0
    | some (n, _) => if b.toNat / 64 % 2 = 1 then -(n : Int) else n
def numRest (s : List UInt8) : List UInt8 := match takeNum s with
  | some (_, r) => r
  | none => []
def numErr (s : List UInt8) : Int := match takeNum s with
  | some _ => 0
  | none => 1

structure RX where
  n : Nd
  s : List UInt8
  k : Int
  e : Int

def rdRowX (f : List UInt8 → Int → RX) : Nat → List UInt8 → Int → Int → List Nd × List UInt8 × Int × Int
  | 0, s, k, e => ([], s, k, e)
  | v + 1, s, k, e => if e ≠ 0 then ([], s, k, e) else
    ((f s k).n :: (rdRowX f v (f s k).s (f s k).k (f s k).e).1, (rdRowX f v (f s k).s (f s k).k (f s k).e).2)

def rdArgsX (f : List UInt8 → Int → RX) (kind p : Int) (s : List UInt8) (k : Int) : RX :=
  if numErr s ≠ 0 ∨ numVal s < 0 then ⟨.mk kind 0 p [] [], [], k, 1⟩ else
    ⟨.mk kind 0 p [] (rdRowX f (numVal s).toNat (numRest s) k 0).1, (rdRowX f (numVal s).toNat (numRest s) k 0).2.1, (rdRowX f (numVal s).toNat (numRest s) k 0).2.2.1, (rdRowX f (numVal s).toNat (numRest s) k 0).2.2.2⟩

def rdBodyX (f : List UInt8 → Int → RX) (c : Nat) (s : List UInt8) (k : Int) : RX :=
  if c = 0 then ⟨.mk 0 (numVal s) 0 [] [], numRest s, k, numErr s⟩
  else if c = 1 then (if numVal s < 0 ∨ numVal s > 200 ∨ numVal s > (numRest s).length then ⟨.mk 1 0 0 [] [], [], k, 1⟩ else ⟨.mk 1 0 0 ((numRest s).take (numVal s).toNat) [], (numRest s).drop (numVal s).toNat, k, numErr s⟩)
  else if c = 2 then (match s with
    | [] => ⟨.mk 2 0 0 [] [], [], k, 1⟩
    | p :: s2 => if primP p.toNat = true then rdArgsX f 2 p.toNat s2 k else ⟨.mk 2 0 p.toNat [] [], [], k, 1⟩)
  else if c = 3 then rdArgsX f 3 0 s k
  else ⟨.mk c 0 0 [] [], [], k, 1⟩

def rdX : Nat → List UInt8 → Int → RX
  | 0, _, k => ⟨nd0, [], k + 1, 4⟩
  | g + 1, s, k => if k + 1 > 300 then ⟨nd0, [], k + 1, 4⟩ else match s with
    | [] => ⟨nd0, [], k + 1, 1⟩
    | c :: s' => rdBodyX (rdX g) c.toNat s' (k + 1)

/-- What was read by the one is what was read by the other. -/
def Like (x : RX) : Rd Nd → Prop
  | .ok n r l => x = ⟨n, r, 300 - (l : Int), 0⟩ ∧ l ≤ 300
  | .no e => x.s = [] ∧ x.e = e ∧ e ≠ 0

end Go.Abs

set_option linter.unusedVariables false
set_option linter.unusedSimpArgs false
set_option maxRecDepth 100000
namespace Go.Proofs
open Go.Abs
attribute [local irreducible] AK AOps QCalls ECalls vNode vNodes vElts tHas vHas tGoodN tDecode bytesN vPar tGood tPack tPar tUnpack

set_option maxHeartbeats 0 in
theorem vParse_calls (t : Ty) (n : Nd) (ht : tySize t ≤ 1048577) (hn : ndSize n ≤ 1048577) : QCalls Tryd.prog Tryd.X 60 [encTy t, encNd n] (.tup [encVl (tPar t n).1, .int .i64 (tPar t n).2]) := by
  have h1 := Good_calls t ht
  have h2 := treeGood_calls n hn
  obtain ⟨T, ts⟩ := t
  obtain ⟨a1, a2, a3, a4, a5⟩ := n
  cases g1 : tGood (.mk T ts) with
  | false =>
    rw [g1] at h1
    rw [show tPar (.mk T ts) (.mk a1 a2 a3 a4 a5) = (vl0, 1) from by unfold tPar; rw [if_neg (by simp [g1])]]
    refine QCalls.of Tryd.func60 rfl (fun args w => Tryd.call60 args w) (Nat.le_of_ble_eq_true rfl) [(0, .c (encTy (.mk T ts))), (1, .c (encNd (.mk a1 a2 a3 a4 a5)))] rfl fun β hβ => ?_; have hf := Tryd.func60
    exact dq
  | true =>
  rw [g1] at h1
  by_cases g2 : tGoodN (.mk a1 a2 a3 a4 a5) = 0
  rotate_left
  · rw [show tPar (.mk T ts) (.mk a1 a2 a3 a4 a5) = (vl0, 1) from by unfold tPar; rw [if_neg (fun h => g2 h.2.1)]]
    have e1 : (tGoodN (.mk a1 a2 a3 a4 a5) != 0) = true := by simpa using g2
    generalize tGoodN (.mk a1 a2 a3 a4 a5) = z at h2 e1
    refine QCalls.of Tryd.func60 rfl (fun args w => Tryd.call60 args w) (Nat.le_of_ble_eq_true rfl) [(0, .c (encTy (.mk T ts))), (1, .c (encNd (.mk a1 a2 a3 a4 a5)))] rfl fun β hβ => ?_; have hf := Tryd.func60
    exact dq
  rw [g2] at h2
  have h3 := vparse_calls (.mk a1 a2 a3 a4 a5) (.mk T ts) (tGood_bad g1) hn ht
  have hsz := vPar_size (.mk a1 a2 a3 a4 a5) (.mk T ts)
  have h4 := has_calls (vPar (.mk a1 a2 a3 a4 a5) (.mk T ts)).1 (.mk T ts) (tGood_bad g1) (by omega) ht
  rcases hr : vPar (.mk a1 a2 a3 a4 a5) (.mk T ts) with ⟨⟨y1, y2, y3, y4, y5, y6, y7⟩, b⟩
  rw [hr] at h3 h4
  simp only at h3 h4
  cases b with
  | false =>
    rw [show tPar (.mk T ts) (.mk a1 a2 a3 a4 a5) = (vl0, 1) from by unfold tPar; rw [if_neg (by simp [hr])]]
    refine QCalls.of Tryd.func60 rfl (fun args w => Tryd.call60 args w) (Nat.le_of_ble_eq_true rfl) [(0, .c (encTy (.mk T ts))), (1, .c (encNd (.mk a1 a2 a3 a4 a5)))] rfl fun β hβ => ?_; have hf := Tryd.func60
    exact dq
  | true =>
    cases g4 : vHas (.mk y1 y2 y3 y4 y5 y6 y7) (.mk T ts) with
    | false =>
      rw [g4] at h4
      rw [show tPar (.mk T ts) (.mk a1 a2 a3 a4 a5) = (vl0, 1) from by unfold tPar; rw [if_neg (by simp [hr, g4])]]
      refine QCalls.of Tryd.func60 rfl (fun args w => Tryd.call60 args w) (Nat.le_of_ble_eq_true rfl) [(0, .c (encTy (.mk T ts))), (1, .c (encNd (.mk a1 a2 a3 a4 a5)))] rfl fun β hβ => ?_; have hf := Tryd.func60
      exact dq
    | true =>
      rw [g4] at h4
      rw [show tPar (.mk T ts) (.mk a1 a2 a3 a4 a5) = (.mk y1 y2 y3 y4 y5 y6 y7, 0) from by unfold tPar; rw [hr, if_pos ⟨g1, g2, rfl, g4⟩]]
      refine QCalls.of Tryd.func60 rfl (fun args w => Tryd.call60 args w) (Nat.le_of_ble_eq_true rfl) [(0, .c (encTy (.mk T ts))), (1, .c (encNd (.mk a1 a2 a3 a4 a5)))] rfl fun β hβ => ?_; have hf := Tryd.func60
      exact dq

/-- What CutPrefix of one byte answers. -/
def cut5 : List UInt8 → List UInt8 × Bool
  | [] => ([], false)
  | c :: r => if c = 5 then (r, true) else (c :: r, false)
end Go.Proofs

-- WK
set_option linter.unusedVariables false
set_option linter.unusedSimpArgs false
namespace Go.Proofs
open Go.Abs

theorem encCR_form (r : CR) : ∃ x y e, encCR r = .tup [.agg [x, y], .int .i64 e] ∧ x.one = true ∧ y.one = true := by
  unfold encCR
  split
  · exact ⟨_, _, _, rfl, rfl, rfl⟩
  · exact ⟨_, _, _, rfl, rfl, rfl⟩
attribute [local irreducible] AK AOps QCalls ECalls GCalls tParse tComp tCopy tPack tStore tGood tGoodN cRow cStep cCodes nMints tPar cMove cShaping cItems cControl cNumbers cData cWorld cFits encCR

set_option maxHeartbeats 0 in
theorem cinstr_calls (P nN : Int) (nS : List UInt8) (args : List Nd) (types s : List Ty) (hP : 40 ≤ P) (hf : cFits P args = some types) (hs : sOk s) (hl : s.length ≤ 9999990) (hsz : ndsSize args ≤ 1048577)
    (hrow : ∀ a ∈ args, ∀ s' : List Ty, sOk s' → s'.length ≤ s.length + 1 → QCalls Tryd.prog Tryd.X 20 [.sl 5 (encNds (ndArgs a)), .sl 2 (encTys s')] (encCX (cRow (ndArgs a) (s', false)))) :
    QCalls Tryd.prog Tryd.X 45 [encNd (.mk 2 nN P nS args), .sl 2 (encTys types), .sl 2 (encTys s)] (encCR (cInstr P args (cCodes args) types s)) := by
  unfold cInstr
  by_cases p1 : P ≤ 44
  · rw [if_pos p1]
    have e1 : decide (P ≤ 44) = true := decide_eq_true p1
    have hq := cmove_calls P nN nS args types s ⟨hP, p1⟩ hf hs hl
    obtain ⟨x, y, e, hx, o1, o2⟩ := encCR_form (cMove P args s)
    rw [hx] at hq ⊢
    refine QCalls.of Tryd.func45 rfl (fun args w => Tryd.call45 args w) (Nat.le_of_ble_eq_true rfl) [(0, .c (encNd (.mk 2 nN P nS args))), (1, .c (.sl 2 (encTys types))), (2, .c (.sl 2 (encTys s)))] rfl fun β hβ => ?_; have hf := Tryd.func45
    repeat' (first | refine st ?_ | (refine AK.condS rfl (fun h => ?_) (fun h => ?_) <;> first | (cases h; done) | rw [h] | skip) | refine uW hf rfl rfl ?_ | refine uC rfl hq ?_ | ((first | refine AOps.splitT rfl rfl rfl asm (fun h => ?_) | refine AOps.splitF rfl rfl rfl asm (fun h => ?_) | refine AOps.split rfl rfl rfl (fun h => ?_) (fun h => ?_)) <;> (fail_if_success (cases h; done)) <;> rw [h]))
    all_goals exact Wk.refl _
  rw [if_neg p1]
  have e1 : decide (P ≤ 44) = false := decide_eq_false p1
  by_cases p2 : P = 45
  · subst p2
    rw [if_pos rfl]
    obtain ⟨x0, y0, t, rfl, rfl, ht⟩ := cFits_tv hf rfl
    clear hf hrow
    have ht2 := ht.2
    have hp1 := vParse_calls t y0 (by omega) (by simp only [ndsSize] at hsz; omega)
    have hp2 := Packed_calls t (by omega)
    rw [show [t].getD 0 ty0 = t from rfl, show [x0, y0].getD 1 nd0 = y0 from rfl]
    obtain ⟨V, ws⟩ := t
    obtain ⟨y1, y2, y3, y4, y5⟩ := y0
    rcases hr : tPar (.mk V ws) (.mk y1 y2 y3 y4 y5) with ⟨⟨v1, v2, v3, v4, v5, v6, v7⟩, e⟩
    rw [hr] at hp1
    simp only at hp1 ⊢
    by_cases he : e = 0
    rotate_left
    · rw [if_neg (fun h => he h.1), encCR_bad (by decide)]
      have e2 : (e != 0) = true := by simpa using he
      refine QCalls.of Tryd.func45 rfl (fun args w => Tryd.call45 args w) (Nat.le_of_ble_eq_true rfl) [(0, .c (encNd (.mk 2 nN 45 nS [x0, .mk y1 y2 y3 y4 y5]))), (1, .c (.sl 2 (encTys [.mk V ws]))), (2, .c (.sl 2 (encTys s)))] rfl fun β hβ => ?_; have hf := Tryd.func45
      repeat' (first | refine st ?_ | (refine AK.condS rfl (fun h => ?_) (fun h => ?_) <;> first | (cases h; done) | rw [h] | skip) | refine uW hf rfl rfl ?_ | refine uC rfl hp1 ?_ | refine uC rfl hp2 ?_ | refine uI rfl (0) rfl (rfl) rfl ?_ | refine uI rfl (1) rfl (rfl) rfl ?_ | ((first | refine AOps.splitT rfl rfl rfl asm (fun h => ?_) | refine AOps.splitF rfl rfl rfl asm (fun h => ?_) | refine AOps.split rfl rfl rfl (fun h => ?_) (fun h => ?_)) <;> (fail_if_success (cases h; done)) <;> rw [h]))
      all_goals first | exact Wk.refl _ | exact wk_bad rfl rfl
    subst he
    cases hpk : tPack (.mk V ws) with
    | false =>
      rw [hpk] at hp2
      rw [if_neg (fun h => by simp at h), encCR_bad (by decide)]
      refine QCalls.of Tryd.func45 rfl (fun args w => Tryd.call45 args w) (Nat.le_of_ble_eq_true rfl) [(0, .c (encNd (.mk 2 nN 45 nS [x0, .mk y1 y2 y3 y4 y5]))), (1, .c (.sl 2 (encTys [.mk V ws]))), (2, .c (.sl 2 (encTys s)))] rfl fun β hβ => ?_; have hf := Tryd.func45
      repeat' (first | refine st ?_ | (refine AK.condS rfl (fun h => ?_) (fun h => ?_) <;> first | (cases h; done) | rw [h] | skip) | refine uW hf rfl rfl ?_ | refine uC rfl hp1 ?_ | refine uC rfl hp2 ?_ | refine uI rfl (0) rfl (rfl) rfl ?_ | refine uI rfl (1) rfl (rfl) rfl ?_ | ((first | refine AOps.splitT rfl rfl rfl asm (fun h => ?_) | refine AOps.splitF rfl rfl rfl asm (fun h => ?_) | refine AOps.split rfl rfl rfl (fun h => ?_) (fun h => ?_)) <;> (fail_if_success (cases h; done)) <;> rw [h]))
      all_goals first | exact Wk.refl _ | exact wk_bad rfl rfl
    | true =>
      rw [hpk] at hp2
      have hp := cput_calls s [.mk V ws]
      rw [encCR_ok'] at hp
      rw [if_pos ⟨rfl, rfl⟩, encCR_ok']
      refine QCalls.of Tryd.func45 rfl (fun args w => Tryd.call45 args w) (Nat.le_of_ble_eq_true rfl) [(0, .c (encNd (.mk 2 nN 45 nS [x0, .mk y1 y2 y3 y4 y5]))), (1, .c (.sl 2 (encTys [.mk V ws]))), (2, .c (.sl 2 (encTys s)))] rfl fun β hβ => ?_; have hf := Tryd.func45
      repeat' (first | refine st ?_ | (refine AK.condS rfl (fun h => ?_) (fun h => ?_) <;> first | (cases h; done) | rw [h] | skip) | refine uW hf rfl rfl ?_ | refine uC rfl hp1 ?_ | refine uC rfl hp2 ?_ | refine uC rfl hp ?_ | refine uI rfl (0) rfl (rfl) rfl ?_ | refine uI rfl (1) rfl (rfl) rfl ?_ | ((first | refine AOps.splitT rfl rfl rfl asm (fun h => ?_) | refine AOps.splitF rfl rfl rfl asm (fun h => ?_) | refine AOps.split rfl rfl rfl (fun h => ?_) (fun h => ?_)) <;> (fail_if_success (cases h; done)) <;> rw [h]))
      all_goals first | exact Wk.refl _ | exact wk_bad rfl rfl
  rw [if_neg p2]
  have e2 : (P == 45) = false := by simpa using p2
  by_cases p3 : P ≤ 58
  · rw [if_pos p3]
    have e3 : decide (P ≤ 58) = true := decide_eq_true p3
    have hq := cshaping_calls P nN nS args types s ⟨by omega, p3⟩ hf hs hl hsz hrow
    obtain ⟨x, y, e, hx, o1, o2⟩ := encCR_form (cShaping P (cCodes args) types s)
    rw [hx] at hq ⊢
    refine QCalls.of Tryd.func45 rfl (fun args w => Tryd.call45 args w) (Nat.le_of_ble_eq_true rfl) [(0, .c (encNd (.mk 2 nN P nS args))), (1, .c (.sl 2 (encTys types))), (2, .c (.sl 2 (encTys s)))] rfl fun β hβ => ?_; have hf := Tryd.func45
    repeat' (first | refine st ?_ | (refine AK.condS rfl (fun h => ?_) (fun h => ?_) <;> first | (cases h; done) | rw [h] | skip) | refine uW hf rfl rfl ?_ | refine uC rfl hq ?_ | ((first | refine AOps.splitT rfl rfl rfl asm (fun h => ?_) | refine AOps.splitF rfl rfl rfl asm (fun h => ?_) | refine AOps.split rfl rfl rfl (fun h => ?_) (fun h => ?_)) <;> (fail_if_success (cases h; done)) <;> rw [h]))
    all_goals exact Wk.refl _
  rw [if_neg p3]
  have e3 : decide (P ≤ 58) = false := decide_eq_false p3
  by_cases p4 : P ≤ 63
  · rw [if_pos p4]
    have e4 : decide (P ≤ 63) = true := decide_eq_true p4
    have hq := citems_calls P nN nS args types s ⟨by omega, p4⟩ hf hs hl hsz hrow
    obtain ⟨x, y, e, hx, o1, o2⟩ := encCR_form (cItems P (cCodes args) types s)
    rw [hx] at hq ⊢
    refine QCalls.of Tryd.func45 rfl (fun args w => Tryd.call45 args w) (Nat.le_of_ble_eq_true rfl) [(0, .c (encNd (.mk 2 nN P nS args))), (1, .c (.sl 2 (encTys types))), (2, .c (.sl 2 (encTys s)))] rfl fun β hβ => ?_; have hf := Tryd.func45
    repeat' (first | refine st ?_ | (refine AK.condS rfl (fun h => ?_) (fun h => ?_) <;> first | (cases h; done) | rw [h] | skip) | refine uW hf rfl rfl ?_ | refine uC rfl hq ?_ | ((first | refine AOps.splitT rfl rfl rfl asm (fun h => ?_) | refine AOps.splitF rfl rfl rfl asm (fun h => ?_) | refine AOps.split rfl rfl rfl (fun h => ?_) (fun h => ?_)) <;> (fail_if_success (cases h; done)) <;> rw [h]))
    all_goals exact Wk.refl _
  rw [if_neg p4]
  have e4 : decide (P ≤ 63) = false := decide_eq_false p4
  by_cases p5 : P ≤ 68
  · rw [if_pos p5]
    have e5 : decide (P ≤ 68) = true := decide_eq_true p5
    have hq := ccontrol_calls P nN nS args types s ⟨by omega, p5⟩ hf hs hl hsz hrow
    obtain ⟨x, y, e, hx, o1, o2⟩ := encCR_form (cControl P args (cCodes args) types s)
    rw [hx] at hq ⊢
    refine QCalls.of Tryd.func45 rfl (fun args w => Tryd.call45 args w) (Nat.le_of_ble_eq_true rfl) [(0, .c (encNd (.mk 2 nN P nS args))), (1, .c (.sl 2 (encTys types))), (2, .c (.sl 2 (encTys s)))] rfl fun β hβ => ?_; have hf := Tryd.func45
    repeat' (first | refine st ?_ | (refine AK.condS rfl (fun h => ?_) (fun h => ?_) <;> first | (cases h; done) | rw [h] | skip) | refine uW hf rfl rfl ?_ | refine uC rfl hq ?_ | ((first | refine AOps.splitT rfl rfl rfl asm (fun h => ?_) | refine AOps.splitF rfl rfl rfl asm (fun h => ?_) | refine AOps.split rfl rfl rfl (fun h => ?_) (fun h => ?_)) <;> (fail_if_success (cases h; done)) <;> rw [h]))
    all_goals exact Wk.refl _
  rw [if_neg p5]
  have e5 : decide (P ≤ 68) = false := decide_eq_false p5
  by_cases p6 : P ≤ 72 ∨ P ≥ 93
  · rw [if_pos p6]
    have hq := cnumbers_calls P s (by omega) hl
    obtain ⟨x, y, e, hx, o1, o2⟩ := encCR_form (cNumbers P s)
    rw [hx] at hq ⊢
    by_cases p7 : P ≤ 72
    · have e6 : decide (P ≤ 72) = true := decide_eq_true p7
      refine QCalls.of Tryd.func45 rfl (fun args w => Tryd.call45 args w) (Nat.le_of_ble_eq_true rfl) [(0, .c (encNd (.mk 2 nN P nS args))), (1, .c (.sl 2 (encTys types))), (2, .c (.sl 2 (encTys s)))] rfl fun β hβ => ?_; have hf := Tryd.func45
      repeat' (first | refine st ?_ | (refine AK.condS rfl (fun h => ?_) (fun h => ?_) <;> first | (cases h; done) | rw [h] | skip) | refine uW hf rfl rfl ?_ | refine uC rfl hq ?_ | ((first | refine AOps.splitT rfl rfl rfl asm (fun h => ?_) | refine AOps.splitF rfl rfl rfl asm (fun h => ?_) | refine AOps.split rfl rfl rfl (fun h => ?_) (fun h => ?_)) <;> (fail_if_success (cases h; done)) <;> rw [h]))
      all_goals exact Wk.refl _
    · have e6 : decide (P ≤ 72) = false := decide_eq_false p7
      have e7 : decide (P ≥ 93) = true := decide_eq_true (by omega)
      refine QCalls.of Tryd.func45 rfl (fun args w => Tryd.call45 args w) (Nat.le_of_ble_eq_true rfl) [(0, .c (encNd (.mk 2 nN P nS args))), (1, .c (.sl 2 (encTys types))), (2, .c (.sl 2 (encTys s)))] rfl fun β hβ => ?_; have hf := Tryd.func45
      repeat' (first | refine st ?_ | (refine AK.condS rfl (fun h => ?_) (fun h => ?_) <;> first | (cases h; done) | rw [h] | skip) | refine uW hf rfl rfl ?_ | refine uC rfl hq ?_ | ((first | refine AOps.splitT rfl rfl rfl asm (fun h => ?_) | refine AOps.splitF rfl rfl rfl asm (fun h => ?_) | refine AOps.split rfl rfl rfl (fun h => ?_) (fun h => ?_)) <;> (fail_if_success (cases h; done)) <;> rw [h]))
      all_goals exact Wk.refl _
  rw [if_neg p6]
  have e6 : decide (P ≤ 72) = false := decide_eq_false (by omega)
  have e7 : decide (P ≥ 93) = false := decide_eq_false (by omega)
  by_cases p8 : P ≤ 83
  · rw [if_pos p8]
    have e8 : decide (P ≤ 83) = true := decide_eq_true p8
    have hq := cdata_calls P args types s ⟨by omega, p8⟩ hf hs hl
    obtain ⟨x, y, e, hx, o1, o2⟩ := encCR_form (cData P types s)
    rw [hx] at hq ⊢
    refine QCalls.of Tryd.func45 rfl (fun args w => Tryd.call45 args w) (Nat.le_of_ble_eq_true rfl) [(0, .c (encNd (.mk 2 nN P nS args))), (1, .c (.sl 2 (encTys types))), (2, .c (.sl 2 (encTys s)))] rfl fun β hβ => ?_; have hf := Tryd.func45
    repeat' (first | refine st ?_ | (refine AK.condS rfl (fun h => ?_) (fun h => ?_) <;> first | (cases h; done) | rw [h] | skip) | refine uW hf rfl rfl ?_ | refine uC rfl hq ?_ | ((first | refine AOps.splitT rfl rfl rfl asm (fun h => ?_) | refine AOps.splitF rfl rfl rfl asm (fun h => ?_) | refine AOps.split rfl rfl rfl (fun h => ?_) (fun h => ?_)) <;> (fail_if_success (cases h; done)) <;> rw [h]))
    all_goals exact Wk.refl _
  · rw [if_neg p8]
    have e8 : decide (P ≤ 83) = false := decide_eq_false p8
    have hq := cworld_calls P args types s ⟨by omega, by omega⟩ hf hs hl
    obtain ⟨x, y, e, hx, o1, o2⟩ := encCR_form (cWorld P types s)
    rw [hx] at hq ⊢
    refine QCalls.of Tryd.func45 rfl (fun args w => Tryd.call45 args w) (Nat.le_of_ble_eq_true rfl) [(0, .c (encNd (.mk 2 nN P nS args))), (1, .c (.sl 2 (encTys types))), (2, .c (.sl 2 (encTys s)))] rfl fun β hβ => ?_; have hf := Tryd.func45
    repeat' (first | refine st ?_ | (refine AK.condS rfl (fun h => ?_) (fun h => ?_) <;> first | (cases h; done) | rw [h] | skip) | refine uW hf rfl rfl ?_ | refine uC rfl hq ?_ | ((first | refine AOps.splitT rfl rfl rfl asm (fun h => ?_) | refine AOps.splitF rfl rfl rfl asm (fun h => ?_) | refine AOps.split rfl rfl rfl (fun h => ?_) (fun h => ?_)) <;> (fail_if_success (cases h; done)) <;> rw [h]))
    all_goals exact Wk.refl _

set_option maxHeartbeats 0 in
theorem cstep_calls (n : Nd) (s : List Ty) (hs : sOk s) (hl : s.length ≤ 9999990) (hsz : ndSize n ≤ 1048577)
    (hown : QCalls Tryd.prog Tryd.X 20 [.sl 5 (encNds (ndArgs n)), .sl 2 (encTys s)] (encCX (cRow (ndArgs n) (s, false))))
    (hrow : ∀ a ∈ ndArgs n, ∀ s' : List Ty, sOk s' → s'.length ≤ s.length + 1 → QCalls Tryd.prog Tryd.X 20 [.sl 5 (encNds (ndArgs a)), .sl 2 (encTys s')] (encCX (cRow (ndArgs a) (s', false)))) :
    QCalls Tryd.prog Tryd.X 33 [encNd n, .sl 2 (encTys s)] (encCR (cStep n s)) := by
  obtain ⟨kind, N, P, S, args⟩ := n
  simp only [ndArgs] at hown hrow
  simp only [ndSize] at hsz
  by_cases k3 : kind = 3
  · subst k3
    rw [show cStep (.mk 3 N P S args) s = cRow args (s, false) from by simp only [cStep, if_true]]
    generalize cRow args (s, false) = r at hown
    obtain ⟨⟨t, b⟩, e⟩ := r
    clear hrow
    refine QCalls.of Tryd.func33 rfl (fun args w => Tryd.call33 args w) (Nat.le_of_ble_eq_true rfl) [(0, .c (encNd (.mk 3 N P S args))), (1, .c (.sl 2 (encTys s)))] rfl fun β hβ => ?_; have hf := Tryd.func33
    repeat' (first | refine st ?_ | (refine AK.condS rfl (fun h => ?_) (fun h => ?_) <;> first | (cases h; done) | rw [h] | skip) | refine uW hf rfl rfl ?_ | refine uC rfl hown ?_)
    all_goals exact wk_X
  have e3 : (kind == 3) = false := by simpa using k3
  by_cases k2 : kind = 2
  rotate_left
  · have e2 : (kind != 2) = true := by simpa using k2
    rw [show cStep (.mk kind N P S args) s = cBad 1 from by simp only [cStep, if_neg k3, if_pos k2], encCR_bad (by decide)]
    clear hown hrow
    refine QCalls.of Tryd.func33 rfl (fun args w => Tryd.call33 args w) (Nat.le_of_ble_eq_true rfl) [(0, .c (encNd (.mk kind N P S args))), (1, .c (.sl 2 (encTys s)))] rfl fun β hβ => ?_; have hf := Tryd.func33
    repeat' (first | refine st ?_ | (refine AK.condS rfl (fun h => ?_) (fun h => ?_) <;> first | (cases h; done) | rw [h] | skip) | refine uW hf rfl rfl ?_)
    all_goals first | exact Wk.refl _ | exact wk_bad rfl rfl
  subst k2
  have hfit := cfits_calls 2 N P S args (by omega)
  cases hf : cFits P args with
  | none =>
    rw [show cStep (.mk 2 N P S args) s = cBad 1 from by simp only [cStep, hf]; rfl, encCR_bad (by decide)]
    rw [hf] at hfit
    clear hown hrow
    refine QCalls.of Tryd.func33 rfl (fun args w => Tryd.call33 args w) (Nat.le_of_ble_eq_true rfl) [(0, .c (encNd (.mk 2 N P S args))), (1, .c (.sl 2 (encTys s)))] rfl fun β hβ => ?_; have hf := Tryd.func33
    repeat' (first | refine st ?_ | (refine AK.condS rfl (fun h => ?_) (fun h => ?_) <;> first | (cases h; done) | rw [h] | skip) | refine uW hf rfl rfl ?_ | refine uC rfl hfit ?_)
    all_goals first | exact Wk.refl _ | exact wk_bad rfl rfl
  | some types =>
    have hP : 40 ≤ P := by
      unfold cFits at hf
      split at hf
      · cases hf
      · omega
    rw [show cStep (.mk 2 N P S args) s = cInstr P args (cCodes args) types s from by simp only [cStep, hf]; rfl]
    have hq := cinstr_calls P N S args types s hP hf hs hl (by omega) hrow
    rw [hf] at hfit
    obtain ⟨x, y, e, hx, o1, o2⟩ := encCR_form (cInstr P args (cCodes args) types s)
    rw [hx] at hq ⊢
    clear hown hrow
    refine QCalls.of Tryd.func33 rfl (fun args w => Tryd.call33 args w) (Nat.le_of_ble_eq_true rfl) [(0, .c (encNd (.mk 2 N P S args))), (1, .c (.sl 2 (encTys s)))] rfl fun β hβ => ?_; have hf := Tryd.func33
    repeat' (first | refine st ?_ | (refine AK.condS rfl (fun h => ?_) (fun h => ?_) <;> first | (cases h; done) | rw [h] | skip) | refine uW hf rfl rfl ?_ | refine uC rfl hfit ?_ | refine uC rfl hq ?_)
    all_goals exact Wk.refl _
end Go.Proofs

-- WK
set_option linter.unusedVariables false
set_option linter.unusedSimpArgs false
namespace Go.Proofs
open Go.Abs

theorem encCR_ne {t : List Ty} {f : Bool} {e : Int} (h : e ≠ 0) : encCR ((t, f), e) = .tup [.agg [.any, .any], .int .i64 e] := by unfold encCR; rw [if_neg h]
theorem ndArgs_size (n : Nd) : ndsSize (ndArgs n) + 1 ≤ ndSize n := by cases n; simp only [ndArgs, ndSize]; omega
theorem ndArgs_lt (n : Nd) : SizeOf.sizeOf (ndArgs n) < SizeOf.sizeOf n := by cases n; simp only [ndArgs, Nd.mk.sizeOf_spec]; omega
theorem cRow_c1 (x : Nd) (l : List Nd) (o : List Ty) : cRow (x :: l) (o, true) = cBad 1 := by simp only [cRow, if_true]
theorem cRow_c0 (x : Nd) (l : List Nd) (o : List Ty) : cRow (x :: l) (o, false) = if (cLook (cStep x o)).2 ≠ 0 then cBad (cLook (cStep x o)).2 else cRow l (cLook (cStep x o)).1 := by
  simp only [cRow]; rfl
theorem cRow_n (o : List Ty × Bool) : cRow [] o = (o, 0) := by simp only [cRow]
theorem cLook_e {t : List Ty} {f : Bool} {e : Int} (h : e ≠ 0) : cLook ((t, f), e) = cBad e := by unfold cLook; rw [if_pos h]
theorem cLook_7 {t : List Ty} {f : Bool} (h : 40 < t.length) : cLook ((t, f), 0) = cBad 7 := by unfold cLook; rw [if_neg (by simp), if_pos h]
theorem cLook_4 {t : List Ty} {f : Bool} (h : ¬ 40 < t.length) (hg : t.all tGood = false) : cLook ((t, f), 0) = cBad 4 := by unfold cLook; rw [if_neg (by simp), if_neg h, if_neg (by rw [hg]; decide)]
theorem cLook_0 {t : List Ty} {f : Bool} (h : ¬ 40 < t.length) (hg : t.all tGood = true) : cLook ((t, f), 0) = ((t, f), 0) := by unfold cLook; rw [if_neg (by simp), if_neg h, if_pos hg]
attribute [local irreducible] AK AOps QCalls ECalls GCalls tParse tGood tGoodN cRow cStep encCR

set_option maxHeartbeats 0 in
theorem crow_calls : ∀ (l : List Nd) (s : List Ty) (B : Nat), sOk s → s.length ≤ B → 40 ≤ B → B + ndsSize l ≤ 9000000 → ndsSize l ≤ 1048577 →
    QCalls Tryd.prog Tryd.X 20 [.sl 5 (encNds l), .sl 2 (encTys s)] (encCX (cRow l (s, false)))
  | l, s, B, hs, hB, h40, hBl, hl => by
    have hrec : ∀ x ∈ l, ∀ o : List Ty, sOk o → o.length ≤ B → QCalls Tryd.prog Tryd.X 33 [encNd x, .sl 2 (encTys o)] (encCR (cStep x o)) := by
      intro x hx o ho hol
      have hxs := ndsSize_mem hx
      have hxa := ndArgs_size x
      refine cstep_calls x o ho (by omega) (by omega) (crow_calls (ndArgs x) o B ho hol h40 (by omega) (by omega)) (fun a ha s' hs' hl' => ?_)
      have has := ndsSize_mem ha
      have haa := ndArgs_size a
      exact crow_calls (ndArgs a) s' (B + 1) hs' (by omega) (by omega) (by omega) (by omega)
    have hal := ndsSize_len l
    refine QCalls.of Tryd.func20 rfl (fun args w => Tryd.call20 args w) (Nat.le_of_ble_eq_true rfl) [(0, .c (.sl 5 (encNds l))), (1, .c (.sl 2 (encTys s)))] rfl fun β hβ => ?_; have hf := Tryd.func20
    repeat' (first | refine st ?_ | (refine AK.condS rfl (fun h => ?_) (fun h => ?_) <;> first | (cases h; done) | rw [h] | skip) | refine uW hf rfl rfl ?_)
    refine AK.loopE (α := Nat × (List Ty × Bool)) (fun z => z.1 ≤ l.length ∧ sOk z.2.1 ∧ z.2.1.length ≤ B ∧ cRow l (s, false) = cRow (l.drop z.1) z.2) (fun z => l.length - z.1)
      (fun z => [(16, .c (.int .i64 z.1)), (15, .c (.int .i64 (encNds l).length)), (14, .c (.sl 5 (encNds l))), (6, .ptr 6 0), (4, .ptr 4 0)])
      (fun z => [(6, [.c (.sl 2 (encTys z.2.1)), .c (.bool z.2.2)]), (4, [.own .exact 2 [], .c (.bool false)])]) (fun _ => []) [6, 4] (0, (s, false))
      ⟨by omega, hs, hB, rfl⟩ ⟨.inl rfl, .inl rfl, .inl rfl, .inl rfl, .inl rfl, trivial⟩ ⟨rfl, rfl, trivial⟩ trivial rfl rfl rfl ?_
    rintro ⟨i, ⟨o, b⟩⟩ ⟨hi, ho, hol, hinv⟩ ih
    simp only at hi ho hol hinv
    rcases get_or l i hi with ⟨x, hx, hm⟩ | he
    · have hc := nds_lt hx
      have h2 := lt_of_get hx
      rw [drop_at hx] at hinv
      cases b with
      | true =>
        rw [cRow_c1] at hinv
        rw [hinv, encCX_bad]
        clear ih hrec hinv
        obtain ⟨k1, k2, k3, k4, k5⟩ := x
        repeat' (first | refine st ?_ | (refine AK.condS rfl (fun h => ?_) (fun h => ?_) <;> first | (cases h; done) | rw [h] | skip) | refine uW hf rfl rfl ?_ | refine uI rfl (i) rfl (nds_at hx) rfl ?_)
        all_goals first | exact Wk.refl _ | exact wk_nil2
      | false =>
        rw [cRow_c0] at hinv
        have hq := hrec x hm o ho hol
        have hsm := Sm_step x o ho
        clear hrec
        generalize cStep x o = r at hq hsm hinv
        obtain ⟨⟨t', f'⟩, e⟩ := r
        obtain ⟨k1, k2, k3, k4, k5⟩ := x
        by_cases he : e = 0
        rotate_left
        · rw [cLook_e he, if_pos (show (cBad e).2 ≠ 0 from he)] at hinv
          rw [encCR_ne he] at hq
          rw [hinv, encCX_bad]
          have e1 : (e != 0) = true := by simpa using he
          clear ih hinv
          repeat' (first | refine st ?_ | (refine AK.condS rfl (fun h => ?_) (fun h => ?_) <;> first | (cases h; done) | rw [h] | skip) | refine uW hf rfl rfl ?_ | refine uI rfl (i) rfl (nds_at hx) rfl ?_ | refine uC rfl hq ?_)
          all_goals first | exact Wk.refl _ | exact wk_nil2
        subst he
        rw [encCR_ok] at hq
        have z1 := encTys_length t'
        by_cases hlen : 40 < t'.length
        · rw [cLook_7 hlen, if_pos (show (cBad 7).2 ≠ 0 from by decide)] at hinv
          rw [hinv, encCX_bad]
          have e1 : decide ((((encTys t').length : Nat) : Int) > 40) = true := decide_eq_true (by omega)
          clear ih hinv
          repeat' (first | refine st ?_ | (refine AK.condS rfl (fun h => ?_) (fun h => ?_) <;> first | (cases h; done) | rw [h] | skip) | refine uW hf rfl rfl ?_ | refine uI rfl (i) rfl (nds_at hx) rfl ?_ | refine uC rfl hq ?_)
          all_goals first | exact Wk.refl _ | exact wk_nil2
        have e1 : decide ((((encTys t').length : Nat) : Int) > 40) = false := decide_eq_false (by omega)
        repeat' (first | refine st ?_ | (refine AK.condS rfl (fun h => ?_) (fun h => ?_) <;> first | (cases h; done) | rw [h] | skip) | refine uW hf rfl rfl ?_ | refine uI rfl (i) rfl (nds_at hx) rfl ?_ | refine uC rfl hq ?_)
        refine AK.loopE (α := Nat) (fun j => j ≤ t'.length ∧ t'.all tGood = (t'.drop j).all tGood) (fun j => t'.length - j)
          (fun j => [(42, .c (.int .i64 j)), (41, .c (.int .i64 (encTys t').length)), (40, .c (.sl 2 (encTys t'))), (16, .c (.int .i64 i)), (15, .c (.int .i64 (encNds l).length)), (14, .c (.sl 5 (encNds l))), (6, .ptr 6 0), (4, .ptr 4 0)])
          (fun j => [(6, [.c (.sl 2 (encTys t')), .c (.bool f')]), (4, [.own .exact 2 [], .c (.bool false)])]) (fun _ => []) [6, 4] 0
          ⟨by omega, rfl⟩ ⟨.inl rfl, .inl rfl, .inl rfl, .inl rfl, .inl rfl, .inl rfl, .inl rfl, .inl rfl, trivial⟩ ⟨rfl, rfl, trivial⟩ trivial rfl rfl rfl ?_
        rintro j ⟨hj, hjv⟩ jh
        rcases get_or t' j hj with ⟨y, hy, hym⟩ | hje
        · have hcj := tys_lt hy
          have hj2 := lt_of_get hy
          have hys : tySize y ≤ 2000 := hsm y hym
          have hg := Good_calls y (by omega)
          rw [drop_at hy, List.all_cons] at hjv
          obtain ⟨U, us⟩ := y
          cases hgy : tGood (.mk U us) with
          | false =>
            rw [hgy] at hg hjv
            rw [Bool.false_and] at hjv
            rw [cLook_4 hlen hjv, if_pos (show (cBad 4).2 ≠ 0 from by decide)] at hinv
            rw [hinv, encCX_bad]
            clear ih jh hinv
            repeat' (first | refine st ?_ | (refine AK.condS rfl (fun h => ?_) (fun h => ?_) <;> first | (cases h; done) | rw [h] | skip) | refine uW hf rfl rfl ?_ | refine uI rfl (j) rfl (tys_at hy) rfl ?_ | refine uC rfl hg ?_)
            all_goals first | exact Wk.refl _ | exact wk_nil2
          | true =>
            rw [hgy] at hg hjv
            rw [Bool.true_and] at hjv
            repeat' (first | refine st ?_ | (refine AK.condS rfl (fun h => ?_) (fun h => ?_) <;> first | (cases h; done) | rw [h] | skip) | refine uW hf rfl rfl ?_ | refine uI rfl (j) rfl (tys_at hy) rfl ?_ | refine uC rfl hg ?_)
            exact AK.again (jh (j + 1) ⟨hj2, hjv⟩ (by omega)) ⟨.inl (succ64 (i := j) (by omega)), .inl rfl, .inl rfl, .inl rfl, .inl rfl, .inl rfl, .inl rfl, .inl rfl, trivial⟩ ⟨rfl, rfl, trivial⟩ trivial rfl rfl rfl
        · have hcj := tys_end hje
          have hall : t'.all tGood = true := by rw [hjv, hje, List.drop_length]; rfl
          rw [cLook_0 hlen hall, if_neg (by simp)] at hinv
          clear jh
          repeat' (first | refine st ?_ | (refine AK.condS rfl (fun h => ?_) (fun h => ?_) <;> first | (cases h; done) | rw [h] | skip) | refine uW hf rfl rfl ?_)
          exact AK.again (ih (i + 1, (t', f')) ⟨h2, sOk_good hall, by show t'.length ≤ B; omega, hinv⟩ (by show l.length - (i + 1) < l.length - i; omega)) ⟨.inl (succ64 (i := i) (by omega)), .inl rfl, .inl rfl, .inl rfl, .inl rfl, trivial⟩ ⟨rfl, rfl, trivial⟩ trivial rfl rfl rfl
    · have hc := nds_end he
      have h0 : cRow l (s, false) = ((o, b), 0) := by rw [hinv, he, List.drop_length, cRow_n]
      rw [h0]
      clear ih hinv hrec
      repeat' (first | refine st ?_ | (refine AK.condS rfl (fun h => ?_) (fun h => ?_) <;> first | (cases h; done) | rw [h] | skip) | refine uW hf rfl rfl ?_)
      all_goals exact Wk.refl _
termination_by l => SizeOf.sizeOf l
decreasing_by
  all_goals
    have h1 := List.sizeOf_lt_of_mem hx
    have h2 := ndArgs_lt x
    first
      | omega
      | (have h3 := List.sizeOf_lt_of_mem ha
         have h4 := ndArgs_lt a
         omega)

set_option maxHeartbeats 0 in
theorem Code_calls (n : Nd) (s : List Ty) (hn : ndSize n ≤ 1048577) (hs : tysSize s ≤ 1048577) : QCalls Tryd.prog Tryd.X 7 [encNd n, .sl 2 (encTys s)] (encCX (cTop n s)) := by
  have h1 := treeGood_calls n hn
  have zl := tysSize_len s
  have z1 := encTys_length s
  unfold cTop
  by_cases hg : tGoodN n ≠ 0
  · rw [if_pos hg, encCX_bad]
    have e1 : (tGoodN n != 0) = true := by simpa using hg
    generalize tGoodN n = z at h1 e1
    obtain ⟨k1, k2, k3, k4, k5⟩ := n
    refine QCalls.of Tryd.func7 rfl (fun args w => Tryd.call7 args w) (Nat.le_of_ble_eq_true rfl) [(0, .c (encNd (.mk k1 k2 k3 k4 k5))), (1, .c (.sl 2 (encTys s)))] rfl fun β hβ => ?_; have hf := Tryd.func7
    repeat' (first | refine st ?_ | (refine AK.condS rfl (fun h => ?_) (fun h => ?_) <;> first | (cases h; done) | rw [h] | skip) | refine uW hf rfl rfl ?_ | refine uC rfl h1 ?_)
    all_goals first | exact Wk.refl _ | exact wk_nil2
  rw [if_neg hg]
  have hg0 : tGoodN n = 0 := by simpa using hg
  rw [hg0] at h1
  have hns := ndArgs_size n
  obtain ⟨k1, k2, k3, k4, k5⟩ := n
  simp only [ndArgs] at hns
  by_cases hk : k1 ≠ 3
  · simp only [if_pos hk]
    rw [encCX_bad]
    have e1 : (k1 != 3) = true := by simpa using hk
    refine QCalls.of Tryd.func7 rfl (fun args w => Tryd.call7 args w) (Nat.le_of_ble_eq_true rfl) [(0, .c (encNd (.mk k1 k2 k3 k4 k5))), (1, .c (.sl 2 (encTys s)))] rfl fun β hβ => ?_; have hf := Tryd.func7
    repeat' (first | refine st ?_ | (refine AK.condS rfl (fun h => ?_) (fun h => ?_) <;> first | (cases h; done) | rw [h] | skip) | refine uW hf rfl rfl ?_ | refine uC rfl h1 ?_)
    all_goals first | exact Wk.refl _ | exact wk_nil2
  obtain rfl : k1 = 3 := by simpa using hk
  simp only [if_neg (show ¬ ((3 : Int) ≠ 3) from by simp)]
  by_cases hl : 40 < s.length
  · rw [if_pos hl, encCX_bad]
    have e1 : decide ((((encTys s).length : Nat) : Int) > 40) = true := decide_eq_true (by omega)
    refine QCalls.of Tryd.func7 rfl (fun args w => Tryd.call7 args w) (Nat.le_of_ble_eq_true rfl) [(0, .c (encNd (.mk 3 k2 k3 k4 k5))), (1, .c (.sl 2 (encTys s)))] rfl fun β hβ => ?_; have hf := Tryd.func7
    repeat' (first | refine st ?_ | (refine AK.condS rfl (fun h => ?_) (fun h => ?_) <;> first | (cases h; done) | rw [h] | skip) | refine uW hf rfl rfl ?_ | refine uC rfl h1 ?_)
    all_goals first | exact Wk.refl _ | exact wk_nil2
  rw [if_neg hl]
  have e1 : decide ((((encTys s).length : Nat) : Int) > 40) = false := decide_eq_false (by omega)
  refine QCalls.of Tryd.func7 rfl (fun args w => Tryd.call7 args w) (Nat.le_of_ble_eq_true rfl) [(0, .c (encNd (.mk 3 k2 k3 k4 k5))), (1, .c (.sl 2 (encTys s)))] rfl fun β hβ => ?_; have hf := Tryd.func7
  repeat' (first | refine st ?_ | (refine AK.condS rfl (fun h => ?_) (fun h => ?_) <;> first | (cases h; done) | rw [h] | skip) | refine uW hf rfl rfl ?_ | refine uC rfl h1 ?_)
  refine AK.loopE (α := Nat) (fun j => j ≤ s.length ∧ s.all tGood = (s.drop j).all tGood) (fun j => s.length - j)
    (fun j => [(25, .c (.int .i64 j)), (24, .c (.int .i64 (encTys s).length)), (23, .c (.sl 2 (encTys s))), (1, .c (.sl 2 (encTys s))), (2, .ptr 2 0), (4, .ptr 4 0)])
    (fun j => [(2, [.c (.int .i64 3), .c (.int .i64 k2), .c (.int .i64 k3), .c (.str k4), .c (.sl 5 (encNds k5))]), (4, [.own .exact 2 [], .c (.bool false)])]) (fun _ => []) [2, 4] 0
    ⟨by omega, rfl⟩ ⟨.inl rfl, .inl rfl, .inl rfl, .inl rfl, .inl rfl, .inl rfl, trivial⟩ ⟨rfl, rfl, trivial⟩ trivial rfl rfl rfl ?_
  rintro j ⟨hj, hjv⟩ jh
  rcases get_or s j hj with ⟨y, hy, hym⟩ | hje
  · have hcj := tys_lt hy
    have hj2 := lt_of_get hy
    have hys := tysSize_mem hym
    have hgg := Good_calls y (by omega)
    rw [drop_at hy, List.all_cons] at hjv
    obtain ⟨U, us⟩ := y
    cases hgy : tGood (.mk U us) with
    | false =>
      rw [hgy] at hgg hjv
      rw [Bool.false_and] at hjv
      rw [if_neg (by rw [hjv]; decide), encCX_bad]
      clear jh
      repeat' (first | refine st ?_ | (refine AK.condS rfl (fun h => ?_) (fun h => ?_) <;> first | (cases h; done) | rw [h] | skip) | refine uW hf rfl rfl ?_ | refine uI rfl (j) rfl (tys_at hy) rfl ?_ | refine uC rfl hgg ?_)
      all_goals first | exact Wk.refl _ | exact wk_nil2
    | true =>
      rw [hgy] at hgg hjv
      rw [Bool.true_and] at hjv
      repeat' (first | refine st ?_ | (refine AK.condS rfl (fun h => ?_) (fun h => ?_) <;> first | (cases h; done) | rw [h] | skip) | refine uW hf rfl rfl ?_ | refine uI rfl (j) rfl (tys_at hy) rfl ?_ | refine uC rfl hgg ?_)
      exact AK.again (jh (j + 1) ⟨hj2, hjv⟩ (by omega)) ⟨.inl (succ64 (i := j) (by omega)), .inl rfl, .inl rfl, .inl rfl, .inl rfl, .inl rfl, trivial⟩ ⟨rfl, rfl, trivial⟩ trivial rfl rfl rfl
  · have hcj := tys_end hje
    have hall : s.all tGood = true := by rw [hjv, hje, List.drop_length]; rfl
    rw [if_pos hall]
    have hcl := cloneTy_calls s (by omega)
    have hr := crow_calls k5 s 40 (sOk_good hall) (by omega) (by omega) (by omega) (by omega)
    generalize cRow k5 (s, false) = r at hr
    obtain ⟨⟨t, f⟩, e⟩ := r
    clear jh
    repeat' (first | refine st ?_ | (refine AK.condS rfl (fun h => ?_) (fun h => ?_) <;> first | (cases h; done) | rw [h] | skip) | refine uW hf rfl rfl ?_ | refine AOps.calle kn rfl rfl (hcl) rfl (by (repeat' (first | exact rfl | exact trivial | refine ⟨_, _, rfl, ?_, ?_⟩ | refine ⟨_, _, _, rfl, rfl, ?_, ?_⟩)); done) rfl rfl rfl rfl rfl rfl rfl rfl rfl rfl rfl rfl rfl rfl ?_ | refine uC rfl hr ?_)
    all_goals exact Wk.refl _
end Go.Proofs

-- WK
set_option linter.unusedVariables false
set_option linter.unusedSimpArgs false
namespace Go.Abs
mutual
/-- sound -/
def vSnd : Vl → Bool
  | .mk k _ _ _ args types code =>
    if k = 14 then decide ((cTop (.mk 3 0 0 [] code) (types.take 1)).2 = 0) && ((cTop (.mk 3 0 0 [] code) (types.take 1)).1.2 || tysSame (cTop (.mk 3 0 0 [] code) (types.take 1)).1.1 (types.drop 1)) && !nMints code
    else vSnds args
def vSnds : List Vl → Bool
  | [] => true
  | x :: l => vSnd x && vSnds l
end
def tFits (t : Ty) (v : Vl) : Bool := tHas t v && vSnd v
def cScript (p s : Ty) (n : Nd) : Int :=
  if (tGood p && tGood s && tStore p && tStore s) = false then 5
  else if (cTop n [.mk 11 [p, s]]).2 ≠ 0 then (cTop n [.mk 11 [p, s]]).2
  else if (cTop n [.mk 11 [p, s]]).1.2 = false ∧ tysSame (cTop n [.mk 11 [p, s]]).1.1 [.mk 11 [.mk 10 [.mk 8 []], s]] = false then 5 else 0
mutual
/-- All lambdas within have two types. -/
def vL2 : Vl → Bool
  | .mk k _ _ _ args types _ => (if k = 14 then decide (types.length = 2) else true) && vL2s args
def vL2s : List Vl → Bool
  | [] => true
  | x :: l => vL2 x && vL2s l
end
mutual
theorem vHas_L2 : ∀ (v : Vl) (t : Ty), tyOk t → vHas v t = true → vL2 v = true
  | .mk k n a s args types code, .mk T ts, ok, h => by
    have hA := vHasAll_L2 args
    have hR := vHasRow_L2 args
    have h0 : args.length = 0 → vL2s args = true := fun h => by rw [List.length_eq_zero_iff.1 h]; rfl
    have z0 := tyOk_args ok
    unfold vHas at h
    by_cases c0 : k ≠ tyT (.mk T ts) ∨ vPlain (.mk k n a s args types code) = false ∨ 200 < s.length
    · rw [if_pos c0] at h; cases h
    rw [if_neg c0] at h
    have hp : vPlain (.mk k n a s args types code) = true := by
      cases hq : vPlain (.mk k n a s args types code) with
      | true => rfl
      | false => exact absurd (.inr (.inl hq)) c0
    have hk : k = T := Decidable.byContradiction fun hne => c0 (.inl hne)
    subst hk
    clear c0
    have d1 : ∀ {p q : Prop} [Decidable (p ∧ q)], decide (p ∧ q) = true → q := fun h => (of_decide_eq_true h).2
    simp only [vL2, Bool.and_eq_true]
    by_cases c14 : k = 14
    · subst c14
      have hp' : types.length = 2 ∧ a = 0 ∧ n = 0 ∧ s = [] ∧ args.length = 0 := by simpa [vPlain] using hp
      exact ⟨by simp [hp'.1], h0 hp'.2.2.2.2⟩
    rw [if_neg c14]
    refine ⟨rfl, ?_⟩
    by_cases c1 : k = 1 ∨ k = 6
    · rw [if_pos c1] at h; exact h0 (of_decide_eq_true h).2
    rw [if_neg c1] at h
    by_cases c2 : k = 2
    · rw [if_pos c2] at h; exact h0 (of_decide_eq_true h).2.2
    rw [if_neg c2] at h
    by_cases c3 : k = 3
    · rw [if_pos c3] at h; exact h0 (of_decide_eq_true h).2.2
    rw [if_neg c3] at h
    by_cases c4 : k = 4 ∨ k = 5
    · rw [if_pos c4] at h; exact h0 (of_decide_eq_true h).2.2
    rw [if_neg c4] at h
    by_cases c7 : k = 7
    · rw [if_pos c7] at h; exact h0 (of_decide_eq_true h).2.2
    rw [if_neg c7] at h
    by_cases c9 : k = 9
    · rw [if_pos c9, Bool.and_eq_true] at h
      subst c9
      obtain ⟨x, rfl, hx⟩ := tyOk_one ok (by decide)
      exact hA x hx h.2
    rw [if_neg c9] at h
    by_cases c10 : k = 10
    · rw [if_pos c10, Bool.and_eq_true] at h
      subst c10
      obtain ⟨x, rfl, hx⟩ := tyOk_one ok (by decide)
      exact hA x hx h.2
    rw [if_neg c10] at h
    by_cases c11 : k = 11
    · rw [if_pos c11, Bool.and_eq_true] at h
      subst c11
      have z := z0.1
      rw [show arity 11 = 2 from by decide] at z
      exact hR ts (fun x hx => z0.2 x hx) h.2 (by have := (of_decide_eq_true h.1).2; omega)
    rw [if_neg c11] at h
    by_cases c12 : k = 12
    · rw [if_pos c12, Bool.and_eq_true] at h
      subst c12
      obtain ⟨x, y, rfl, hx, hy⟩ := tyOk_two ok (by decide)
      have hn := of_decide_eq_true h.1
      rcases (show n = 0 ∨ n = 1 by omega) with rfl | rfl
      · exact hA x hx h.2
      · exact hA y hy h.2
    rw [if_neg c12] at h
    by_cases c13 : k = 13
    · rw [if_pos c13, Bool.and_eq_true, Bool.and_eq_true] at h
      subst c13
      exact hA _ (tyOk_map ok (by decide)) h.1.2
    rw [if_neg c13, if_neg c14] at h
    by_cases c15 : k = 15
    · rw [if_pos c15, Bool.and_eq_true] at h
      subst c15
      obtain ⟨x, rfl, hx⟩ := tyOk_one ok (by decide)
      exact hA x hx h.2
    rw [if_neg c15] at h
    by_cases c8 : k = 8
    · rw [if_pos c8, Bool.and_eq_true, Bool.and_eq_true] at h
      exact hA _ (tyOk_good h.1.2) h.2
    rw [if_neg c8] at h
    cases h
theorem vHasAll_L2 : ∀ (l : List Vl) (t : Ty), tyOk t → vHasAll l t = true → vL2s l = true
  | [], _, _, _ => rfl
  | x :: l, t, ok, h => by
    simp only [vHasAll, Bool.and_eq_true] at h
    simp only [vL2s, Bool.and_eq_true]
    exact ⟨vHas_L2 x t ok h.1, vHasAll_L2 l t ok h.2⟩
theorem vHasRow_L2 : ∀ (l : List Vl) (r : List Ty), (∀ x ∈ r, tyOk x) → vHasRow l r = true → l.length ≤ r.length → vL2s l = true
  | [], _, _, _, _ => rfl
  | x :: l, [], _, _, h => by simp at h
  | x :: l, t :: r, ok, h, hl => by
    simp only [vHasRow, Bool.and_eq_true] at h
    simp only [vL2s, Bool.and_eq_true]
    exact ⟨vHas_L2 x t (ok t (by simp)) h.1, vHasRow_L2 l r (fun x hx => ok x (by simp [hx])) h.2 (by simpa using hl)⟩
end
theorem tHas_L2 {t : Ty} {v : Vl} (h : tHas t v = true) : vL2 v = true := by
  unfold tHas at h
  rw [Bool.and_eq_true] at h
  exact vHas_L2 v t (tyOk_good h.1) h.2
theorem vL2s_mem : ∀ {l : List Vl} {x : Vl}, vL2s l = true → x ∈ l → vL2 x = true
  | y :: l, x, h, hx => by
    simp only [vL2s, Bool.and_eq_true] at h
    rcases List.mem_cons.1 hx with rfl | hx
    · exact h.1
    · exact vL2s_mem h.2 hx
theorem vSnds_any : ∀ l : List Vl, vSnds l = !(l.any fun x => !vSnd x)
  | [] => rfl
  | x :: l => by simp only [vSnds, List.any_cons, vSnds_any l, Bool.not_or, Bool.not_not]
end Go.Abs
namespace Go.Proofs
open Go.Abs
theorem vSnd_lam (k n a : Int) (s : List UInt8) (args : List Vl) (p q : Ty) (code : List Nd) (hk : k = 14) : vSnd (.mk k n a s args [p, q] code) =
    (decide ((cTop (.mk 3 0 0 [] code) [p]).2 = 0) && ((cTop (.mk 3 0 0 [] code) [p]).1.2 || tysSame (cTop (.mk 3 0 0 [] code) [p]).1.1 [q]) && !nMints code) := by
  unfold vSnd; rw [if_pos hk]; rfl
theorem vSnd_other (k n a : Int) (s : List UInt8) (args : List Vl) (types : List Ty) (code : List Nd) (hk : k ≠ 14) : vSnd (.mk k n a s args types code) = vSnds args := by
  rw [vSnd, if_neg hk]
attribute [local irreducible] AK AOps QCalls ECalls GCalls tParse tGood tGoodN cRow cStep cTop nMints vSnd vSnds tHas tComp tStore

set_option maxHeartbeats 0 in
theorem sound_calls : ∀ (v : Vl), vL2 v = true → vlSize v ≤ 1048577 → QCalls Tryd.prog Tryd.X 40 [encVl v] (.bool (vSnd v))
  | .mk k n a s args types code, h2, hv => by
    simp only [vlSize] at hv
    simp only [vL2, Bool.and_eq_true] at h2
    by_cases hk : k = 14
    · rw [if_pos hk] at h2
      obtain ⟨p, q, rfl⟩ := tlen2 (of_decide_eq_true h2.1)
      rw [vSnd_lam k n a s args p q code hk]
      subst hk
      simp only [tysSize] at hv
      have hc := Code_calls (.mk 3 0 0 [] code) [p] (by simp only [ndSize, List.length_nil]; omega) (by simp only [tysSize]; omega)
      have hm := mints_calls code (by omega)
      have hg := @cTop_good (.mk 3 0 0 [] code) [p]
      generalize cTop (.mk 3 0 0 [] code) [p] = r at hc hg
      obtain ⟨⟨t, f⟩, e⟩ := r
      simp only at hg ⊢
      by_cases he : e = 0
      rotate_left
      · have e1 : (e == 0) = false := by simpa using he
        rw [decide_eq_false he, Bool.false_and, Bool.false_and]
        refine QCalls.of Tryd.func40 rfl (fun args w => Tryd.call40 args w) (Nat.le_of_ble_eq_true rfl) [(0, .c (encVl (.mk 14 n a s args [p, q] code)))] rfl fun β hβ => ?_; have hf := Tryd.func40
        repeat' (first | refine st ?_ | (refine AK.condS rfl (fun h => ?_) (fun h => ?_) <;> first | (cases h; done) | rw [h] | skip) | refine uW hf rfl rfl ?_ | refine uC rfl hc ?_ | ((first | refine AOps.splitT rfl rfl rfl asm (fun h => ?_) | refine AOps.splitF rfl rfl rfl asm (fun h => ?_) | refine AOps.split rfl rfl rfl (fun h => ?_) (fun h => ?_)) <;> (fail_if_success (cases h; done)) <;> rw [h]))
        all_goals exact Wk.refl _
      subst he
      rw [decide_eq_true rfl, Bool.true_and]
      have hs := csame_calls t [q] (sOk_good (hg rfl).1) (by have := (hg rfl).2.1; omega)
      cases f with
      | true =>
        rw [Bool.true_or, Bool.true_and]
        refine QCalls.of Tryd.func40 rfl (fun args w => Tryd.call40 args w) (Nat.le_of_ble_eq_true rfl) [(0, .c (encVl (.mk 14 n a s args [p, q] code)))] rfl fun β hβ => ?_; have hf := Tryd.func40
        repeat' (first | refine st ?_ | (refine AK.condS rfl (fun h => ?_) (fun h => ?_) <;> first | (cases h; done) | rw [h] | skip) | refine uW hf rfl rfl ?_ | refine uC rfl hc ?_ | refine uC rfl hm ?_ | ((first | refine AOps.splitT rfl rfl rfl asm (fun h => ?_) | refine AOps.splitF rfl rfl rfl asm (fun h => ?_) | refine AOps.split rfl rfl rfl (fun h => ?_) (fun h => ?_)) <;> (fail_if_success (cases h; done)) <;> rw [h]))
        all_goals exact Wk.refl _
      | false =>
        rw [Bool.false_or]
        cases hq : tysSame t [q] with
        | false =>
          rw [hq] at hs
          rw [Bool.false_and]
          refine QCalls.of Tryd.func40 rfl (fun args w => Tryd.call40 args w) (Nat.le_of_ble_eq_true rfl) [(0, .c (encVl (.mk 14 n a s args [p, q] code)))] rfl fun β hβ => ?_; have hf := Tryd.func40
          repeat' (first | refine st ?_ | (refine AK.condS rfl (fun h => ?_) (fun h => ?_) <;> first | (cases h; done) | rw [h] | skip) | refine uW hf rfl rfl ?_ | refine uC rfl hc ?_ | refine uC rfl hm ?_ | refine uC rfl hs ?_ | ((first | refine AOps.splitT rfl rfl rfl asm (fun h => ?_) | refine AOps.splitF rfl rfl rfl asm (fun h => ?_) | refine AOps.split rfl rfl rfl (fun h => ?_) (fun h => ?_)) <;> (fail_if_success (cases h; done)) <;> rw [h]))
          all_goals exact Wk.refl _
        | true =>
          rw [hq] at hs
          rw [Bool.true_and]
          refine QCalls.of Tryd.func40 rfl (fun args w => Tryd.call40 args w) (Nat.le_of_ble_eq_true rfl) [(0, .c (encVl (.mk 14 n a s args [p, q] code)))] rfl fun β hβ => ?_; have hf := Tryd.func40
          repeat' (first | refine st ?_ | (refine AK.condS rfl (fun h => ?_) (fun h => ?_) <;> first | (cases h; done) | rw [h] | skip) | refine uW hf rfl rfl ?_ | refine uC rfl hc ?_ | refine uC rfl hm ?_ | refine uC rfl hs ?_ | ((first | refine AOps.splitT rfl rfl rfl asm (fun h => ?_) | refine AOps.splitF rfl rfl rfl asm (fun h => ?_) | refine AOps.split rfl rfl rfl (fun h => ?_) (fun h => ?_)) <;> (fail_if_success (cases h; done)) <;> rw [h]))
          all_goals exact Wk.refl _
    · rw [vSnd_other k n a s args types code hk, vSnds_any]
      have e1 : (k == 14) = false := by simpa using hk
      have hF : ∀ x ∈ args, QCalls Tryd.prog Tryd.X 54 (encVl x :: []) (.bool (!vSnd x)) := fun x hx => by
        have hm := vlsSize_mem hx
        have hq := sound_calls x (vL2s_mem h2.2 hx) (by omega)
        obtain ⟨x1, x2, x3, x4, x5, x6, x7⟩ := x
        refine QCalls.of Tryd.func54 rfl (fun args w => Tryd.call54 args w) (Nat.le_of_ble_eq_true rfl) [(0, .c (encVl (.mk x1 x2 x3 x4 x5 x6 x7)))] rfl fun β hβ => ?_; have hf := Tryd.func54
        repeat' (first | refine st ?_ | refine uW hf rfl rfl ?_ | refine uC rfl hq ?_)
        all_goals exact Wk.refl _
      have hz := vlsSize_len args
      have hq := containsVl_calls args (fun x => !vSnd x) 54 [] hF (by omega)
      clear hF
      refine QCalls.of Tryd.func40 rfl (fun args w => Tryd.call40 args w) (Nat.le_of_ble_eq_true rfl) [(0, .c (encVl (.mk k n a s args types code)))] rfl fun β hβ => ?_; have hf := Tryd.func40
      repeat' (first | refine st ?_ | (refine AK.condS rfl (fun h => ?_) (fun h => ?_) <;> first | (cases h; done) | rw [h] | skip) | refine uW hf rfl rfl ?_ | refine uC rfl hq ?_ | ((first | refine AOps.splitT rfl rfl rfl asm (fun h => ?_) | refine AOps.splitF rfl rfl rfl asm (fun h => ?_) | refine AOps.split rfl rfl rfl (fun h => ?_) (fun h => ?_)) <;> (fail_if_success (cases h; done)) <;> rw [h]))
      all_goals exact Wk.refl _
termination_by v => SizeOf.sizeOf v
decreasing_by
  have := List.sizeOf_lt_of_mem hx
  simp at this ⊢; omega

theorem Fits_calls (t : Ty) (v : Vl) (ht : tySize t ≤ 1048577) (hv : vlSize v ≤ 1048577) : QCalls Tryd.prog Tryd.X 27 [encTy t, encVl v] (.bool (tFits t v)) := by
  have h1 := Has_calls t v ht hv
  unfold tFits
  cases hh : tHas t v with
  | false =>
    rw [hh] at h1
    rw [Bool.false_and]
    obtain ⟨T, ts⟩ := t
    obtain ⟨x1, x2, x3, x4, x5, x6, x7⟩ := v
    refine QCalls.of Tryd.func27 rfl (fun args w => Tryd.call27 args w) (Nat.le_of_ble_eq_true rfl) [(0, .c (encTy (.mk T ts))), (1, .c (encVl (.mk x1 x2 x3 x4 x5 x6 x7)))] rfl fun β hβ => ?_; have hf := Tryd.func27
    repeat' (first | refine st ?_ | refine uW hf rfl rfl ?_ | refine uC rfl h1 ?_ | ((first | refine AOps.splitT rfl rfl rfl asm (fun h => ?_) | refine AOps.splitF rfl rfl rfl asm (fun h => ?_) | refine AOps.split rfl rfl rfl (fun h => ?_) (fun h => ?_)) <;> (fail_if_success (cases h; done)) <;> rw [h]))
    all_goals exact Wk.refl _
  | true =>
    have h2 := sound_calls v (tHas_L2 hh) hv
    rw [hh] at h1
    rw [Bool.true_and]
    obtain ⟨T, ts⟩ := t
    obtain ⟨x1, x2, x3, x4, x5, x6, x7⟩ := v
    refine QCalls.of Tryd.func27 rfl (fun args w => Tryd.call27 args w) (Nat.le_of_ble_eq_true rfl) [(0, .c (encTy (.mk T ts))), (1, .c (encVl (.mk x1 x2 x3 x4 x5 x6 x7)))] rfl fun β hβ => ?_; have hf := Tryd.func27
    repeat' (first | refine st ?_ | refine uW hf rfl rfl ?_ | refine uC rfl h1 ?_ | refine uC rfl h2 ?_ | ((first | refine AOps.splitT rfl rfl rfl asm (fun h => ?_) | refine AOps.splitF rfl rfl rfl asm (fun h => ?_) | refine AOps.split rfl rfl rfl (fun h => ?_) (fun h => ?_)) <;> (fail_if_success (cases h; done)) <;> rw [h]))
    all_goals exact Wk.refl _
end Go.Proofs

-- WK
set_option linter.unusedVariables false
set_option linter.unusedSimpArgs false
namespace Go.Proofs
open Go.Abs
attribute [local irreducible] AK AOps QCalls ECalls GCalls tParse tGood tGoodN cRow cStep cTop nMints vSnd vSnds tHas tComp tStore

set_option maxHeartbeats 0 in
theorem Script_calls (p s : Ty) (n : Nd) (hps : tySize p + tySize s ≤ 1048576) (hn : ndSize n ≤ 1048577) : QCalls Tryd.prog Tryd.X 26 [encTy p, encTy s, encNd n] (.int .i64 (cScript p s n)) := by
  have h1 := Good_calls p (by omega)
  have h2 := Good_calls s (by omega)
  have h3 := Stored_calls p (by omega)
  have h4 := Stored_calls s (by omega)
  have h5 := Code_calls n [.mk 11 [p, s]] hn (by simp only [tysSize, tySize]; omega)
  have h6 := one_calls 11 [p, s]
  have h7 := one0_calls 8
  have h8 := one_calls 10 [.mk 8 []]
  have h9 := one_calls 11 [.mk 10 [.mk 8 []], s]
  have hg := @cTop_good n [.mk 11 [p, s]]
  have hsm := fun (t : List Ty) (ht : sOk t) (hl : t.length ≤ 20000000) => csame_calls t [.mk 11 [.mk 10 [.mk 8 []], s]] ht hl
  unfold cScript
  generalize cTop n [.mk 11 [p, s]] = r at h5 hg
  obtain ⟨⟨t, f⟩, e⟩ := r
  simp only at hg ⊢
  obtain ⟨P, ps⟩ := p
  obtain ⟨S, ss⟩ := s
  obtain ⟨k1, k2, k3, k4, k5⟩ := n
  cases g1 : tGood (.mk P ps) with
  | false =>
    rw [g1] at h1
    rw [if_pos (by rfl)]
    clear h2 h3 h4 h5 h6 h7 h8 h9 hsm
    refine QCalls.of Tryd.func26 rfl (fun args w => Tryd.call26 args w) (Nat.le_of_ble_eq_true rfl) [(0, .c (encTy (.mk P ps))), (1, .c (encTy (.mk S ss))), (2, .c (encNd (.mk k1 k2 k3 k4 k5)))] rfl fun β hβ => ?_; have hf := Tryd.func26
    repeat' (first | refine st ?_ | (refine AK.condS rfl (fun h => ?_) (fun h => ?_) <;> first | (cases h; done) | rw [h] | skip) | refine uW hf rfl rfl ?_ | refine uC rfl h1 ?_ | ((first | refine AOps.splitT rfl rfl rfl asm (fun h => ?_) | refine AOps.splitF rfl rfl rfl asm (fun h => ?_) | refine AOps.split rfl rfl rfl (fun h => ?_) (fun h => ?_)) <;> (fail_if_success (cases h; done)) <;> rw [h]))
    all_goals exact Wk.refl _
  | true =>
  rw [g1] at h1
  cases g2 : tGood (.mk S ss) with
  | false =>
    rw [g2] at h2
    rw [if_pos (by rfl)]
    clear h3 h4 h5 h6 h7 h8 h9 hsm
    refine QCalls.of Tryd.func26 rfl (fun args w => Tryd.call26 args w) (Nat.le_of_ble_eq_true rfl) [(0, .c (encTy (.mk P ps))), (1, .c (encTy (.mk S ss))), (2, .c (encNd (.mk k1 k2 k3 k4 k5)))] rfl fun β hβ => ?_; have hf := Tryd.func26
    repeat' (first | refine st ?_ | (refine AK.condS rfl (fun h => ?_) (fun h => ?_) <;> first | (cases h; done) | rw [h] | skip) | refine uW hf rfl rfl ?_ | refine uC rfl h1 ?_ | refine uC rfl h2 ?_ | ((first | refine AOps.splitT rfl rfl rfl asm (fun h => ?_) | refine AOps.splitF rfl rfl rfl asm (fun h => ?_) | refine AOps.split rfl rfl rfl (fun h => ?_) (fun h => ?_)) <;> (fail_if_success (cases h; done)) <;> rw [h]))
    all_goals exact Wk.refl _
  | true =>
  rw [g2] at h2
  cases g3 : tStore (.mk P ps) with
  | false =>
    rw [g3] at h3
    rw [if_pos (by simp)]
    clear h4 h5 h6 h7 h8 h9 hsm
    refine QCalls.of Tryd.func26 rfl (fun args w => Tryd.call26 args w) (Nat.le_of_ble_eq_true rfl) [(0, .c (encTy (.mk P ps))), (1, .c (encTy (.mk S ss))), (2, .c (encNd (.mk k1 k2 k3 k4 k5)))] rfl fun β hβ => ?_; have hf := Tryd.func26
    repeat' (first | refine st ?_ | (refine AK.condS rfl (fun h => ?_) (fun h => ?_) <;> first | (cases h; done) | rw [h] | skip) | refine uW hf rfl rfl ?_ | refine uC rfl h1 ?_ | refine uC rfl h2 ?_ | refine uC rfl h3 ?_ | ((first | refine AOps.splitT rfl rfl rfl asm (fun h => ?_) | refine AOps.splitF rfl rfl rfl asm (fun h => ?_) | refine AOps.split rfl rfl rfl (fun h => ?_) (fun h => ?_)) <;> (fail_if_success (cases h; done)) <;> rw [h]))
    all_goals exact Wk.refl _
  | true =>
  rw [g3] at h3
  cases g4 : tStore (.mk S ss) with
  | false =>
    rw [g4] at h4
    rw [if_pos (by simp)]
    clear h5 h6 h7 h8 h9 hsm
    refine QCalls.of Tryd.func26 rfl (fun args w => Tryd.call26 args w) (Nat.le_of_ble_eq_true rfl) [(0, .c (encTy (.mk P ps))), (1, .c (encTy (.mk S ss))), (2, .c (encNd (.mk k1 k2 k3 k4 k5)))] rfl fun β hβ => ?_; have hf := Tryd.func26
    repeat' (first | refine st ?_ | (refine AK.condS rfl (fun h => ?_) (fun h => ?_) <;> first | (cases h; done) | rw [h] | skip) | refine uW hf rfl rfl ?_ | refine uC rfl h1 ?_ | refine uC rfl h2 ?_ | refine uC rfl h3 ?_ | refine uC rfl h4 ?_ | ((first | refine AOps.splitT rfl rfl rfl asm (fun h => ?_) | refine AOps.splitF rfl rfl rfl asm (fun h => ?_) | refine AOps.split rfl rfl rfl (fun h => ?_) (fun h => ?_)) <;> (fail_if_success (cases h; done)) <;> rw [h]))
    all_goals exact Wk.refl _
  | true =>
  rw [g4] at h4
  rw [if_neg (by simp)]
  by_cases he : e = 0
  rotate_left
  · rw [if_pos he]
    have e1 : (e != 0) = true := by simpa using he
    clear h7 h8 h9 hsm
    refine QCalls.of Tryd.func26 rfl (fun args w => Tryd.call26 args w) (Nat.le_of_ble_eq_true rfl) [(0, .c (encTy (.mk P ps))), (1, .c (encTy (.mk S ss))), (2, .c (encNd (.mk k1 k2 k3 k4 k5)))] rfl fun β hβ => ?_; have hf := Tryd.func26
    repeat' (first | refine st ?_ | (refine AK.condS rfl (fun h => ?_) (fun h => ?_) <;> first | (cases h; done) | rw [h] | skip) | refine uW hf rfl rfl ?_ | refine uC rfl h1 ?_ | refine uC rfl h2 ?_ | refine uC rfl h3 ?_ | refine uC rfl h4 ?_ | refine uC rfl h6 ?_ | refine uC rfl h5 ?_ | ((first | refine AOps.splitT rfl rfl rfl asm (fun h => ?_) | refine AOps.splitF rfl rfl rfl asm (fun h => ?_) | refine AOps.split rfl rfl rfl (fun h => ?_) (fun h => ?_)) <;> (fail_if_success (cases h; done)) <;> rw [h]))
    all_goals exact Wk.refl _
  subst he
  rw [if_neg (by simp)]
  have hs' := hsm t (sOk_good (hg rfl).1) (by have := (hg rfl).2.1; omega)
  clear hsm
  cases f with
  | true =>
    rw [if_neg (by simp)]
    refine QCalls.of Tryd.func26 rfl (fun args w => Tryd.call26 args w) (Nat.le_of_ble_eq_true rfl) [(0, .c (encTy (.mk P ps))), (1, .c (encTy (.mk S ss))), (2, .c (encNd (.mk k1 k2 k3 k4 k5)))] rfl fun β hβ => ?_; have hf := Tryd.func26
    repeat' (first | refine st ?_ | (refine AK.condS rfl (fun h => ?_) (fun h => ?_) <;> first | (cases h; done) | rw [h] | skip) | refine uW hf rfl rfl ?_ | refine uC rfl h1 ?_ | refine uC rfl h2 ?_ | refine uC rfl h3 ?_ | refine uC rfl h4 ?_ | refine uC rfl h6 ?_ | refine uC rfl h5 ?_ | ((first | refine AOps.splitT rfl rfl rfl asm (fun h => ?_) | refine AOps.splitF rfl rfl rfl asm (fun h => ?_) | refine AOps.split rfl rfl rfl (fun h => ?_) (fun h => ?_)) <;> (fail_if_success (cases h; done)) <;> rw [h]))
    all_goals exact Wk.refl _
  | false =>
    cases hq : tysSame t [.mk 11 [.mk 10 [.mk 8 []], .mk S ss]] with
    | false =>
      rw [hq] at hs'
      rw [if_pos (by simp)]
      refine QCalls.of Tryd.func26 rfl (fun args w => Tryd.call26 args w) (Nat.le_of_ble_eq_true rfl) [(0, .c (encTy (.mk P ps))), (1, .c (encTy (.mk S ss))), (2, .c (encNd (.mk k1 k2 k3 k4 k5)))] rfl fun β hβ => ?_; have hf := Tryd.func26
      repeat' (first | refine st ?_ | (refine AK.condS rfl (fun h => ?_) (fun h => ?_) <;> first | (cases h; done) | rw [h] | skip) | refine uW hf rfl rfl ?_ | refine uC rfl h1 ?_ | refine uC rfl h2 ?_ | refine uC rfl h3 ?_ | refine uC rfl h4 ?_ | refine uC rfl h6 ?_ | refine uC rfl h5 ?_ | refine uC rfl h7 ?_ | refine uC rfl h8 ?_ | refine uC rfl h9 ?_ | refine uC rfl hs' ?_ | ((first | refine AOps.splitT rfl rfl rfl asm (fun h => ?_) | refine AOps.splitF rfl rfl rfl asm (fun h => ?_) | refine AOps.split rfl rfl rfl (fun h => ?_) (fun h => ?_)) <;> (fail_if_success (cases h; done)) <;> rw [h]))
      all_goals exact Wk.refl _
    | true =>
      rw [hq] at hs'
      rw [if_neg (by simp)]
      refine QCalls.of Tryd.func26 rfl (fun args w => Tryd.call26 args w) (Nat.le_of_ble_eq_true rfl) [(0, .c (encTy (.mk P ps))), (1, .c (encTy (.mk S ss))), (2, .c (encNd (.mk k1 k2 k3 k4 k5)))] rfl fun β hβ => ?_; have hf := Tryd.func26
      repeat' (first | refine st ?_ | (refine AK.condS rfl (fun h => ?_) (fun h => ?_) <;> first | (cases h; done) | rw [h] | skip) | refine uW hf rfl rfl ?_ | refine uC rfl h1 ?_ | refine uC rfl h2 ?_ | refine uC rfl h3 ?_ | refine uC rfl h4 ?_ | refine uC rfl h6 ?_ | refine uC rfl h5 ?_ | refine uC rfl h7 ?_ | refine uC rfl h8 ?_ | refine uC rfl h9 ?_ | refine uC rfl hs' ?_ | ((first | refine AOps.splitT rfl rfl rfl asm (fun h => ?_) | refine AOps.splitF rfl rfl rfl asm (fun h => ?_) | refine AOps.split rfl rfl rfl (fun h => ?_) (fun h => ?_)) <;> (fail_if_success (cases h; done)) <;> rw [h]))
      all_goals exact Wk.refl _
end Go.Proofs

set_option linter.unusedVariables false
set_option linter.unusedSimpArgs false
namespace Go.Abs
structure Acc where
  is : Int
  bal : Int
  cnt : Int
  param : Ty
  store : Ty
  code : List Nd
  keep : Vl
structure Led where
  accs : List Acc
  fees : Int
def Acc.setBal (a : Acc) (z : Int) : Acc := { a with bal := z }
def accWf (a : Acc) : Prop := (-9223372036854775808 ≤ a.is ∧ a.is ≤ 9223372036854775807) ∧ (-9223372036854775808 ≤ a.bal ∧ a.bal ≤ 9223372036854775807) ∧ (-9223372036854775808 ≤ a.cnt ∧ a.cnt ≤ 9223372036854775807)
def accSize (a : Acc) : Nat := tySize a.param + tySize a.store + ndsSize a.code + vlSize a.keep
def encA : Acc → List CV
  | ⟨is, bal, cnt, .mk pT pA, .mk sT sA, code, .mk k n m s args types lam⟩ =>
    [.int .i64 is, .int .i64 bal, .int .i64 cnt, .int .i64 pT, .sl 2 (encTys pA), .int .i64 sT, .sl 2 (encTys sA), .sl 5 (encNds code),
     .int .i64 k, .int .i64 n, .int .i64 m, .str s, .sl 7 (encVls args), .sl 2 (encTys types), .sl 5 (encNds lam)]
def encAs : List Acc → List CV
  | [] => []
  | a :: l => encA a ++ encAs l
/-- What a ledger is as a value: its cells. -/
def ledCV (l : Led) : List CV := encAs l.accs ++ [.int .i64 l.fees]
/-- .. as they lie in a box. -/
def ledAV (l : Led) : List AV := (ledCV l).map AV.c
def accsAV (l : Led) : List AV := (encAs l.accs).map AV.c
def accAV (a : Acc) : List AV := (encA a).map AV.c
theorem encA_len (a : Acc) : (encA a).length = 15 := by
  obtain ⟨is, bal, cnt, ⟨pT, pA⟩, ⟨sT, sA⟩, code, ⟨k, n, m, s, args, types, lam⟩⟩ := a
  rfl
theorem encAs_len : ∀ l : List Acc, (encAs l).length = l.length * 15
  | [] => rfl
  | a :: l => by simp only [encAs, List.length_append, encA_len, encAs_len l, List.length_cons]; omega
theorem accsAV_len {l : Led} (h : l.accs.length = 12) : (accsAV l).length = 180 := by simp only [accsAV, List.length_map, encAs_len, h]
theorem ledAV_eq (l : Led) : ledAV l = accsAV l ++ [.c (.int .i64 l.fees)] := by simp only [ledAV, ledCV, accsAV, List.map_append, List.map_cons, List.map_nil]
theorem ledAV_len {l : Led} (h : l.accs.length = 12) : (ledAV l).length = 181 := by rw [ledAV_eq, List.length_append, accsAV_len h]; rfl
/-- One account's place. -/
theorem encAs_split : ∀ (l : List Acc) (i : Nat) (a : Acc), l[i]? = some a → encAs l = encAs (l.take i) ++ (encA a ++ encAs (l.drop (i + 1)))
  | [], i, a, h => by simp at h
  | x :: l, 0, a, h => by simp at h; subst h; simp [encAs]
  | x :: l, i + 1, a, h => by
    simp only [List.getElem?_cons_succ] at h
    simp only [encAs, List.take_succ_cons, List.drop_succ_cons, List.append_assoc, encAs_split l i a h]
def setB : List Acc → Nat → Int → List Acc
  | [], _, _ => []
  | a :: l, 0, z => a.setBal z :: l
  | a :: l, i + 1, z => a :: setB l i z
def Led.setBal (l : Led) (i : Nat) (z : Int) : Led := ⟨setB l.accs i z, l.fees⟩
theorem setB_len : ∀ (l : List Acc) (i : Nat) (z : Int), (setB l i z).length = l.length
  | [], _, _ => rfl
  | a :: l, 0, z => rfl
  | a :: l, i + 1, z => by simp only [setB, List.length_cons, setB_len l i z]
theorem setB_get : ∀ (l : List Acc) (i j : Nat) (z : Int), (setB l i z)[j]? = if i = j then (l[j]?).map (fun a => a.setBal z) else l[j]?
  | [], i, j, z => by simp [setB]
  | a :: l, 0, 0, z => by simp [setB]
  | a :: l, 0, j + 1, z => by simp [setB]
  | a :: l, i + 1, 0, z => by simp [setB]
  | a :: l, i + 1, j + 1, z => by simp only [setB, List.getElem?_cons_succ, setB_get l i j z, Nat.add_right_cancel_iff]
theorem setB_split : ∀ (l : List Acc) (i : Nat) (a : Acc) (z : Int), l[i]? = some a → encAs (setB l i z) = encAs (l.take i) ++ (encA (a.setBal z) ++ encAs (l.drop (i + 1)))
  | [], i, a, z, h => by simp at h
  | x :: l, 0, a, z, h => by simp at h; subst h; simp [setB, encAs]
  | x :: l, i + 1, a, z, h => by
    simp only [List.getElem?_cons_succ] at h
    simp only [setB, encAs, List.take_succ_cons, List.drop_succ_cons, List.append_assoc, setB_split l i a z h]

/-- What of an account stands behind its balance. -/
def restA : Acc → List CV
  | ⟨_, _, cnt, .mk pT pA, .mk sT sA, code, .mk k n m s args types lam⟩ =>
    [.int .i64 cnt, .int .i64 pT, .sl 2 (encTys pA), .int .i64 sT, .sl 2 (encTys sA), .sl 5 (encNds code),
     .int .i64 k, .int .i64 n, .int .i64 m, .str s, .sl 7 (encVls args), .sl 2 (encTys types), .sl 5 (encNds lam)]
theorem encA_bal (a : Acc) : encA a = .int .i64 a.is :: .int .i64 a.bal :: restA a := by
  obtain ⟨is, bal, cnt, ⟨pT, pA⟩, ⟨sT, sA⟩, code, ⟨k, n, m, s, args, types, lam⟩⟩ := a
  rfl
theorem restA_set (a : Acc) (z : Int) : restA (a.setBal z) = restA a := by
  obtain ⟨is, bal, cnt, ⟨pT, pA⟩, ⟨sT, sA⟩, code, ⟨k, n, m, s, args, types, lam⟩⟩ := a
  rfl
section
variable {l : Led} {i : Nat} {a : Acc} (h12 : l.accs.length = 12) (ha : l.accs[i]? = some a)
theorem led_box (l : Led) : cellsA (.c (.agg (ledCV l))) = some (ledAV l) := opened_eq _
theorem led_take (h12 : l.accs.length = 12) : takeN 181 (ledAV l) = some (ledAV l) := by rw [← ledAV_len h12]; exact takeN_all _
theorem led_accs (h12 : l.accs.length = 12) : takeN 180 (ledAV l) = some (accsAV l) := by rw [ledAV_eq, ← accsAV_len h12]; exact takeN_app _ _
theorem led_fees (h12 : l.accs.length = 12) : dropN 180 (ledAV l) = some [.c (.int .i64 l.fees)] := by rw [ledAV_eq, ← accsAV_len h12]; exact dropN_app _ _
theorem led_close (l : Led) : close (.agg (ledAV l)) = some (.agg (ledCV l)) := by simp only [close, ledAV, close_map]
/-- Where an account begins. -/
theorem led_at (h12 : l.accs.length = 12) (ha : l.accs[i]? = some a) : ∃ p q : List AV, p.length = i * 15 ∧ (∀ z, ledAV (l.setBal i z) = p ++ ((encA (a.setBal z)).map AV.c ++ q)) ∧ ledAV l = p ++ ((encA a).map AV.c ++ q) ∧ ∃ q', accsAV l = p ++ ((encA a).map AV.c ++ q') := by
  have hi : i < l.accs.length := (List.getElem?_eq_some_iff.1 ha).1
  refine ⟨(encAs (l.accs.take i)).map AV.c, (encAs (l.accs.drop (i + 1)) ++ [CV.int .i64 l.fees]).map AV.c, ?_, fun z => ?_, ?_, (encAs (l.accs.drop (i + 1))).map AV.c, ?_⟩
  · rw [List.length_map, encAs_len, List.length_take]; omega
  · show (encAs (setB l.accs i z) ++ [CV.int .i64 l.fees]).map AV.c = _
    rw [setB_split _ _ _ _ ha]; simp only [List.map_append, List.append_assoc]
  · show (encAs l.accs ++ [CV.int .i64 l.fees]).map AV.c = _
    rw [encAs_split _ _ _ ha]; simp only [List.map_append, List.append_assoc]
  · show (encAs l.accs).map AV.c = _
    rw [encAs_split _ _ _ ha]; simp only [List.map_append, List.append_assoc]
theorem led_is (h12 : l.accs.length = 12) (ha : l.accs[i]? = some a) : ∃ r, dropN (0 + i * 15 + 0) (ledAV l) = some (.c (.int .i64 a.is) :: r) := by
  obtain ⟨p, q, h1, _, h2, _⟩ := led_at h12 ha
  rw [h2, encA_bal]
  exact ⟨(CV.int .i64 a.bal :: restA a).map AV.c ++ q, by rw [Nat.zero_add, Nat.add_zero, ← h1]; exact dropN_app p _⟩
theorem led_bal (h12 : l.accs.length = 12) (ha : l.accs[i]? = some a) : ∃ r, dropN (0 + i * 15 + 1) (ledAV l) = some (.c (.int .i64 a.bal) :: r) := by
  obtain ⟨p, q, h1, _, h2, _⟩ := led_at h12 ha
  rw [h2, encA_bal]
  exact ⟨(restA a).map AV.c ++ q, by rw [Nat.zero_add, ← h1]; exact dropN_add _ _ _ _ _ (dropN_app p _) (by simp only [List.map_cons, List.cons_append, dropN])⟩
theorem led_put (h12 : l.accs.length = 12) (ha : l.accs[i]? = some a) (z : Int) : writeAt (0 + i * 15 + 1) [.c (.int .i64 z)] (ledAV l) = some (ledAV (l.setBal i z)) := by
  obtain ⟨p, q, h1, h3, h2, _⟩ := led_at h12 ha
  rw [h2, h3 z, encA_bal, encA_bal, restA_set]
  have := writeAt_in (.c (.int .i64 z)) (p ++ [.c (.int .i64 a.is)]) (.c (.int .i64 a.bal)) ((restA a).map AV.c ++ q)
  rw [List.length_append, h1, List.length_singleton] at this
  rw [Nat.zero_add]
  have e1 : (a.setBal z).is = a.is := rfl
  have e2 : (a.setBal z).bal = z := rfl
  rw [e1, e2]
  simpa using this
theorem accs_at (h12 : l.accs.length = 12) (ha : l.accs[i]? = some a) : ∃ r, dropN (i * 15) (accsAV l) = some r ∧ takeN 15 r = some (accAV a) := by
  obtain ⟨p, q, h1, _, _, q', h2⟩ := led_at h12 ha
  refine ⟨(encA a).map AV.c ++ q', ?_, ?_⟩
  · rw [h2, ← h1]; exact dropN_app p _
  · have := takeN_app ((encA a).map AV.c) q'
    rw [List.length_map, encA_len] at this; exact this
end
end Go.Abs
