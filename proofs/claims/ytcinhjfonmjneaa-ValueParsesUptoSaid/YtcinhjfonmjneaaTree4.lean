/- What parse of package value answers. Bits of bytes and numbers. What put and add of package tree answer. What add and Encode of package tree answer, and whether tree answers at all. Leaving a call with boxes at the end of its text. Package tree's reader as plain functions, step for step, and that it answers as trees are read. What bad, byte and number of package tree's reader answer. -/
import Derived.Test.YtcinhjfonmjneaaVal8
import Derived.Test.YtcinhjfonmjneaaNum1
import Derived.Test.YtcinhjfonmjneaaLibD
set_option linter.unusedVariables false
set_option linter.unusedSimpArgs false
set_option maxRecDepth 100000
namespace Go.Proofs
open Go.Abs
theorem len_eq (l : List Nd) (b : Prop) [Decidable b] (h : b ↔ l.length = 0) : ((((encNds l).length : Nat) : Int) == 0) = decide b := by
  rw [encNds_length, Bool.eq_iff_iff]; simp [h]
theorem int_eq (a b : Int) : (a == b) = decide (a = b) := by rw [Bool.eq_iff_iff]; simp
attribute [local irreducible] AK AOps QCalls ECalls vPar vRow vParAll vParMap

set_option maxHeartbeats 0 in
theorem vparse_calls : ∀ (n : Nd) (t : Ty), tBad t = false → ndSize n ≤ 1048577 → tySize t ≤ 1048577 → QCalls Try.prog Try.X 123 [encTy t, encNd n] (.tup [encVl (vPar n t).1, .bool (vPar n t).2])
  | .mk kind N P S args, .mk T ts, hb, hn, ht => by
    simp only [ndSize] at hn
    simp only [tySize] at ht
    have hl1 := ndsSize_len args
    have hin : ∀ x ∈ args, ∀ u, tBad u = false → tySize u ≤ 1048577 → QCalls Try.prog Try.X 123 [encTy u, encNd x] (.tup [encVl (vPar x u).1, .bool (vPar x u).2]) := fun x hx u h1 h2 => vparse_calls x u h1 (by have := ndsSize_mem hx; omega) h2
    have hin2 : ∀ k n p s xa, Nd.mk k n p s xa ∈ args → ∀ y ∈ xa, ∀ u, tBad u = false → tySize u ≤ 1048577 → QCalls Try.prog Try.X 123 [encTy u, encNd y] (.tup [encVl (vPar y u).1, .bool (vPar y u).2]) := fun k n p s xa hx y hy u h1 h2 => vparse_calls y u h1 (by have h3 := ndsSize_mem hx; have h4 := ndsSize_mem hy; simp only [ndSize] at h3; omega) h2
    obtain ⟨har, hbs⟩ := tBad_args hb
    simp only [tyT, tyArgs] at har hbs
    have hrow : QCalls Try.prog Try.X 147 [.sl 2 (encTys ts), .sl 5 (encNds args)] (.tup [.sl 7 (encVls (vRow args ts).1), .bool (vRow args ts).2]) :=
      row_calls ts args (by omega) fun x hx u hu => hin x hx u (tBads_mem hbs hu) (by have := tysSize_mem hu; omega)
    by_cases c : T = 1
    · subst c
      rw [vPar1]
      by_cases hi : kind = 2 ∧ P = 20
      · obtain ⟨rfl, rfl⟩ := hi
        have h1 := is_calls 2 N 20 20 S args
        rw [show decide ((2 : Int) = 2 ∧ (20 : Int) = 20) = true from rfl] at h1
        have e := len_eq args ((2 : Int) = 2 ∧ (20 : Int) = 20 ∧ args.length = 0) (by simp)
        refine QCalls.of Try.func123 rfl (fun args w => Try.call123 args w) (Nat.le_of_ble_eq_true rfl) [(0, .c (encTy (.mk 1 ts))), (1, .c (encNd (.mk 2 N 20 S args)))] rfl fun β hβ => ?_; have hf := Try.func123
        refine AK.seq ?_
        refine AK.region Try.mixed rfl ?_
        repeat' (first | refine so ?_ | (refine uA rfl ?_ ?_ <;> (try (show (_ : Nat) * _ ≤ _; dsimp only))) | ((first | refine AOps.splitT rfl rfl rfl asm (fun h => ?_) | refine AOps.splitF rfl rfl rfl asm (fun h => ?_) | refine AOps.split rfl rfl rfl (fun h => ?_) (fun h => ?_)) <;> (fail_if_success (cases h; done)) <;> rw [h]))
        refine AK.freeze 3 rfl rfl rfl rfl ?_
        repeat' (first | refine st ?_ | (refine AK.condS rfl (fun h => ?_) (fun h => ?_) <;> first | (cases h; done) | rw [h] | skip) | refine uQ hf rfl rfl ?_ | refine uC rfl h1 ?_ | (refine uA rfl ?_ ?_ <;> (try (show (_ : Nat) * _ ≤ _; dsimp only))) | ((first | refine AOps.splitT rfl rfl rfl asm (fun h => ?_) | refine AOps.splitF rfl rfl rfl asm (fun h => ?_) | refine AOps.split rfl rfl rfl (fun h => ?_) (fun h => ?_)) <;> (fail_if_success (cases h; done)) <;> rw [h]))
        all_goals exact congrArg (fun b => CV.tup [encVl (val0 1), CV.bool b]) e
      · have h1 := is_calls kind N P 20 S args
        rw [show decide (kind = 2 ∧ P = 20) = false from decide_eq_false hi] at h1
        rw [show decide (kind = 2 ∧ P = 20 ∧ args.length = 0) = false from decide_eq_false (fun h => hi ⟨h.1, h.2.1⟩)]
        refine QCalls.of Try.func123 rfl (fun args w => Try.call123 args w) (Nat.le_of_ble_eq_true rfl) [(0, .c (encTy (.mk 1 ts))), (1, .c (encNd (.mk kind N P S args)))] rfl fun β hβ => ?_; have hf := Try.func123
        refine AK.seq ?_
        refine AK.region Try.mixed rfl ?_
        repeat' (first | refine so ?_ | (refine uA rfl ?_ ?_ <;> (try (show (_ : Nat) * _ ≤ _; dsimp only))) | ((first | refine AOps.splitT rfl rfl rfl asm (fun h => ?_) | refine AOps.splitF rfl rfl rfl asm (fun h => ?_) | refine AOps.split rfl rfl rfl (fun h => ?_) (fun h => ?_)) <;> (fail_if_success (cases h; done)) <;> rw [h]))
        refine AK.freeze 3 rfl rfl rfl rfl ?_
        exact dq
    by_cases c : T = 2
    · subst c
      rw [vPar2]
      by_cases hi : kind = 2 ∧ P = 21
      · obtain ⟨rfl, rfl⟩ := hi
        have h1 := is_calls 2 N 21 21 S args
        have h2 := is_calls 2 N 21 22 S args
        rw [show decide ((2 : Int) = 2 ∧ (21 : Int) = 21) = true from rfl] at h1
        rw [show decide ((2 : Int) = 2 ∧ (21 : Int) = 22) = false from rfl] at h2
        have e := len_eq args ((2 : Int) = 2 ∧ ((21 : Int) = 21 ∨ (21 : Int) = 22) ∧ args.length = 0) (by simp)
        refine QCalls.of Try.func123 rfl (fun args w => Try.call123 args w) (Nat.le_of_ble_eq_true rfl) [(0, .c (encTy (.mk 2 ts))), (1, .c (encNd (.mk 2 N 21 S args)))] rfl fun β hβ => ?_; have hf := Try.func123
        refine AK.seq ?_
        refine AK.region Try.mixed rfl ?_
        repeat' (first | refine so ?_ | (refine uA rfl ?_ ?_ <;> (try (show (_ : Nat) * _ ≤ _; dsimp only))) | ((first | refine AOps.splitT rfl rfl rfl asm (fun h => ?_) | refine AOps.splitF rfl rfl rfl asm (fun h => ?_) | refine AOps.split rfl rfl rfl (fun h => ?_) (fun h => ?_)) <;> (fail_if_success (cases h; done)) <;> rw [h]))
        refine AK.freeze 3 rfl rfl rfl rfl ?_
        repeat' (first | refine st ?_ | (refine AK.condS rfl (fun h => ?_) (fun h => ?_) <;> first | (cases h; done) | rw [h] | skip) | refine uQ hf rfl rfl ?_ | refine uC rfl h1 ?_ | refine uC rfl h2 ?_ | (refine uA rfl ?_ ?_ <;> (try (show (_ : Nat) * _ ≤ _; dsimp only))) | ((first | refine AOps.splitT rfl rfl rfl asm (fun h => ?_) | refine AOps.splitF rfl rfl rfl asm (fun h => ?_) | refine AOps.split rfl rfl rfl (fun h => ?_) (fun h => ?_)) <;> (fail_if_success (cases h; done)) <;> rw [h]))
        all_goals exact congrArg (fun b => CV.tup [encVl (.mk 2 (IntKind.i64.wrap (22 - 21)) 0 [] [] [] []), CV.bool b]) e
      by_cases hj : kind = 2 ∧ P = 22
      · obtain ⟨rfl, rfl⟩ := hj
        have h1 := is_calls 2 N 22 21 S args
        have h2 := is_calls 2 N 22 22 S args
        rw [show decide ((2 : Int) = 2 ∧ (22 : Int) = 21) = false from rfl] at h1
        rw [show decide ((2 : Int) = 2 ∧ (22 : Int) = 22) = true from rfl] at h2
        have e := len_eq args ((2 : Int) = 2 ∧ ((22 : Int) = 21 ∨ (22 : Int) = 22) ∧ args.length = 0) (by simp)
        refine QCalls.of Try.func123 rfl (fun args w => Try.call123 args w) (Nat.le_of_ble_eq_true rfl) [(0, .c (encTy (.mk 2 ts))), (1, .c (encNd (.mk 2 N 22 S args)))] rfl fun β hβ => ?_; have hf := Try.func123
        refine AK.seq ?_
        refine AK.region Try.mixed rfl ?_
        repeat' (first | refine so ?_ | (refine uA rfl ?_ ?_ <;> (try (show (_ : Nat) * _ ≤ _; dsimp only))) | ((first | refine AOps.splitT rfl rfl rfl asm (fun h => ?_) | refine AOps.splitF rfl rfl rfl asm (fun h => ?_) | refine AOps.split rfl rfl rfl (fun h => ?_) (fun h => ?_)) <;> (fail_if_success (cases h; done)) <;> rw [h]))
        refine AK.freeze 3 rfl rfl rfl rfl ?_
        repeat' (first | refine st ?_ | (refine AK.condS rfl (fun h => ?_) (fun h => ?_) <;> first | (cases h; done) | rw [h] | skip) | refine uQ hf rfl rfl ?_ | refine uC rfl h1 ?_ | refine uC rfl h2 ?_ | (refine uA rfl ?_ ?_ <;> (try (show (_ : Nat) * _ ≤ _; dsimp only))) | ((first | refine AOps.splitT rfl rfl rfl asm (fun h => ?_) | refine AOps.splitF rfl rfl rfl asm (fun h => ?_) | refine AOps.split rfl rfl rfl (fun h => ?_) (fun h => ?_)) <;> (fail_if_success (cases h; done)) <;> rw [h]))
        all_goals exact congrArg (fun b => CV.tup [encVl (.mk 2 (IntKind.i64.wrap (22 - 22)) 0 [] [] [] []), CV.bool b]) e
      have h1 := is_calls kind N P 21 S args
      have h2 := is_calls kind N P 22 S args
      rw [decide_eq_false hi] at h1
      rw [decide_eq_false hj] at h2
      rw [show decide (kind = 2 ∧ (P = 21 ∨ P = 22) ∧ args.length = 0) = false from decide_eq_false (fun h => h.2.1.elim (fun g => hi ⟨h.1, g⟩) (fun g => hj ⟨h.1, g⟩))]
      refine QCalls.of Try.func123 rfl (fun args w => Try.call123 args w) (Nat.le_of_ble_eq_true rfl) [(0, .c (encTy (.mk 2 ts))), (1, .c (encNd (.mk kind N P S args)))] rfl fun β hβ => ?_; have hf := Try.func123
      refine AK.seq ?_
      refine AK.region Try.mixed rfl ?_
      repeat' (first | refine so ?_ | (refine uA rfl ?_ ?_ <;> (try (show (_ : Nat) * _ ≤ _; dsimp only))) | ((first | refine AOps.splitT rfl rfl rfl asm (fun h => ?_) | refine AOps.splitF rfl rfl rfl asm (fun h => ?_) | refine AOps.split rfl rfl rfl (fun h => ?_) (fun h => ?_)) <;> (fail_if_success (cases h; done)) <;> rw [h]))
      refine AK.freeze 3 rfl rfl rfl rfl ?_
      exact dq
    by_cases c : T = 3
    · subst c
      rw [vPar3 3 kind N P (by decide), ← int_eq]
      refine QCalls.of Try.func123 rfl (fun args w => Try.call123 args w) (Nat.le_of_ble_eq_true rfl) [(0, .c (encTy (.mk 3 ts))), (1, .c (encNd (.mk kind N P S args)))] rfl fun β hβ => ?_; have hf := Try.func123
      refine AK.seq ?_
      refine AK.region Try.mixed rfl ?_
      repeat' (first | refine so ?_ | (refine uA rfl ?_ ?_ <;> (try (show (_ : Nat) * _ ≤ _; dsimp only))) | ((first | refine AOps.splitT rfl rfl rfl asm (fun h => ?_) | refine AOps.splitF rfl rfl rfl asm (fun h => ?_) | refine AOps.split rfl rfl rfl (fun h => ?_) (fun h => ?_)) <;> (fail_if_success (cases h; done)) <;> rw [h]))
      refine AK.freeze 3 rfl rfl rfl rfl ?_
      exact dq
    by_cases c : T = 4
    · subst c
      rw [vPar3 4 kind N P (by decide), ← int_eq]
      refine QCalls.of Try.func123 rfl (fun args w => Try.call123 args w) (Nat.le_of_ble_eq_true rfl) [(0, .c (encTy (.mk 4 ts))), (1, .c (encNd (.mk kind N P S args)))] rfl fun β hβ => ?_; have hf := Try.func123
      refine AK.seq ?_
      refine AK.region Try.mixed rfl ?_
      repeat' (first | refine so ?_ | (refine uA rfl ?_ ?_ <;> (try (show (_ : Nat) * _ ≤ _; dsimp only))) | ((first | refine AOps.splitT rfl rfl rfl asm (fun h => ?_) | refine AOps.splitF rfl rfl rfl asm (fun h => ?_) | refine AOps.split rfl rfl rfl (fun h => ?_) (fun h => ?_)) <;> (fail_if_success (cases h; done)) <;> rw [h]))
      refine AK.freeze 3 rfl rfl rfl rfl ?_
      exact dq
    by_cases c : T = 5
    · subst c
      rw [vPar3 5 kind N P (by decide), ← int_eq]
      refine QCalls.of Try.func123 rfl (fun args w => Try.call123 args w) (Nat.le_of_ble_eq_true rfl) [(0, .c (encTy (.mk 5 ts))), (1, .c (encNd (.mk kind N P S args)))] rfl fun β hβ => ?_; have hf := Try.func123
      refine AK.seq ?_
      refine AK.region Try.mixed rfl ?_
      repeat' (first | refine so ?_ | (refine uA rfl ?_ ?_ <;> (try (show (_ : Nat) * _ ≤ _; dsimp only))) | ((first | refine AOps.splitT rfl rfl rfl asm (fun h => ?_) | refine AOps.splitF rfl rfl rfl asm (fun h => ?_) | refine AOps.split rfl rfl rfl (fun h => ?_) (fun h => ?_)) <;> (fail_if_success (cases h; done)) <;> rw [h]))
      refine AK.freeze 3 rfl rfl rfl rfl ?_
      exact dq
    by_cases c : T = 7
    · subst c
      rw [vPar3 7 kind N P (by decide), ← int_eq]
      refine QCalls.of Try.func123 rfl (fun args w => Try.call123 args w) (Nat.le_of_ble_eq_true rfl) [(0, .c (encTy (.mk 7 ts))), (1, .c (encNd (.mk kind N P S args)))] rfl fun β hβ => ?_; have hf := Try.func123
      refine AK.seq ?_
      refine AK.region Try.mixed rfl ?_
      repeat' (first | refine so ?_ | (refine uA rfl ?_ ?_ <;> (try (show (_ : Nat) * _ ≤ _; dsimp only))) | ((first | refine AOps.splitT rfl rfl rfl asm (fun h => ?_) | refine AOps.splitF rfl rfl rfl asm (fun h => ?_) | refine AOps.split rfl rfl rfl (fun h => ?_) (fun h => ?_)) <;> (fail_if_success (cases h; done)) <;> rw [h]))
      refine AK.freeze 3 rfl rfl rfl rfl ?_
      exact dq
    by_cases c : T = 6
    · subst c
      rw [vPar6, ← int_eq]
      refine QCalls.of Try.func123 rfl (fun args w => Try.call123 args w) (Nat.le_of_ble_eq_true rfl) [(0, .c (encTy (.mk 6 ts))), (1, .c (encNd (.mk kind N P S args)))] rfl fun β hβ => ?_; have hf := Try.func123
      refine AK.seq ?_
      refine AK.region Try.mixed rfl ?_
      repeat' (first | refine so ?_ | (refine uA rfl ?_ ?_ <;> (try (show (_ : Nat) * _ ≤ _; dsimp only))) | ((first | refine AOps.splitT rfl rfl rfl asm (fun h => ?_) | refine AOps.splitF rfl rfl rfl asm (fun h => ?_) | refine AOps.split rfl rfl rfl (fun h => ?_) (fun h => ?_)) <;> (fail_if_success (cases h; done)) <;> rw [h]))
      refine AK.freeze 3 rfl rfl rfl rfl ?_
      exact dq
    by_cases c : T = 9
    · subst c
      by_cases hi : kind = 2 ∧ P = 27
      · obtain ⟨rfl, rfl⟩ := hi
        rw [vPar9a]
        have h1 := is_calls 2 N 27 27 S args
        rw [show decide ((2 : Int) = 2 ∧ (27 : Int) = 27) = true from rfl] at h1
        have e := len_eq args (args.length = 0) Iff.rfl
        refine QCalls.of Try.func123 rfl (fun args w => Try.call123 args w) (Nat.le_of_ble_eq_true rfl) [(0, .c (encTy (.mk 9 ts))), (1, .c (encNd (.mk 2 N 27 S args)))] rfl fun β hβ => ?_; have hf := Try.func123
        refine AK.seq ?_
        refine AK.region Try.mixed rfl ?_
        repeat' (first | refine so ?_ | (refine uA rfl ?_ ?_ <;> (try (show (_ : Nat) * _ ≤ _; dsimp only))) | ((first | refine AOps.splitT rfl rfl rfl asm (fun h => ?_) | refine AOps.splitF rfl rfl rfl asm (fun h => ?_) | refine AOps.split rfl rfl rfl (fun h => ?_) (fun h => ?_)) <;> (fail_if_success (cases h; done)) <;> rw [h]))
        refine AK.freeze 3 rfl rfl rfl rfl ?_
        repeat' (first | refine st ?_ | (refine AK.condS rfl (fun h => ?_) (fun h => ?_) <;> first | (cases h; done) | rw [h] | skip) | refine uQ hf rfl rfl ?_ | refine uC rfl h1 ?_ | (refine uA rfl ?_ ?_ <;> (try (show (_ : Nat) * _ ≤ _; dsimp only))) | ((first | refine AOps.splitT rfl rfl rfl asm (fun h => ?_) | refine AOps.splitF rfl rfl rfl asm (fun h => ?_) | refine AOps.split rfl rfl rfl (fun h => ?_) (fun h => ?_)) <;> (fail_if_success (cases h; done)) <;> rw [h]))
        all_goals exact congrArg (fun b => CV.tup [encVl (val0 9), CV.bool b]) e
      by_cases hj : kind = 2 ∧ P = 26
      · obtain ⟨rfl, rfl⟩ := hj
        rw [vPar9b]
        have h1 := is_calls 2 N 26 27 S args
        rw [show decide ((2 : Int) = 2 ∧ (26 : Int) = 27) = false from rfl] at h1
        have h2 := is_calls 2 N 26 26 S args
        rw [show decide ((2 : Int) = 2 ∧ (26 : Int) = 26) = true from rfl] at h2
        generalize vRow args ts = z at hrow
        refine QCalls.of Try.func123 rfl (fun args w => Try.call123 args w) (Nat.le_of_ble_eq_true rfl) [(0, .c (encTy (.mk 9 ts))), (1, .c (encNd (.mk 2 N 26 S args)))] rfl fun β hβ => ?_; have hf := Try.func123
        refine AK.seq ?_
        refine AK.region Try.mixed rfl ?_
        repeat' (first | refine so ?_ | (refine uA rfl ?_ ?_ <;> (try (show (_ : Nat) * _ ≤ _; dsimp only))) | ((first | refine AOps.splitT rfl rfl rfl asm (fun h => ?_) | refine AOps.splitF rfl rfl rfl asm (fun h => ?_) | refine AOps.split rfl rfl rfl (fun h => ?_) (fun h => ?_)) <;> (fail_if_success (cases h; done)) <;> rw [h]))
        refine AK.freeze 3 rfl rfl rfl rfl ?_
        exact dq
      rw [vPar9c _ _ _ _ _ _ hi hj]
      have h1 := is_calls kind N P 27 S args
      have h2 := is_calls kind N P 26 S args
      rw [decide_eq_false hi] at h1
      rw [decide_eq_false hj] at h2
      refine QCalls.of Try.func123 rfl (fun args w => Try.call123 args w) (Nat.le_of_ble_eq_true rfl) [(0, .c (encTy (.mk 9 ts))), (1, .c (encNd (.mk kind N P S args)))] rfl fun β hβ => ?_; have hf := Try.func123
      refine AK.seq ?_
      refine AK.region Try.mixed rfl ?_
      repeat' (first | refine so ?_ | (refine uA rfl ?_ ?_ <;> (try (show (_ : Nat) * _ ≤ _; dsimp only))) | ((first | refine AOps.splitT rfl rfl rfl asm (fun h => ?_) | refine AOps.splitF rfl rfl rfl asm (fun h => ?_) | refine AOps.split rfl rfl rfl (fun h => ?_) (fun h => ?_)) <;> (fail_if_success (cases h; done)) <;> rw [h]))
      refine AK.freeze 3 rfl rfl rfl rfl ?_
      exact dq
    by_cases c : T = 11
    · subst c
      by_cases hi : kind = 2 ∧ P = 23
      · obtain ⟨rfl, rfl⟩ := hi
        rw [vPar11a]
        have h1 := is_calls 2 N 23 23 S args
        rw [show decide ((2 : Int) = 2 ∧ (23 : Int) = 23) = true from rfl] at h1
        generalize vRow args ts = z at hrow
        refine QCalls.of Try.func123 rfl (fun args w => Try.call123 args w) (Nat.le_of_ble_eq_true rfl) [(0, .c (encTy (.mk 11 ts))), (1, .c (encNd (.mk 2 N 23 S args)))] rfl fun β hβ => ?_; have hf := Try.func123
        refine AK.seq ?_
        refine AK.region Try.mixed rfl ?_
        repeat' (first | refine so ?_ | (refine uA rfl ?_ ?_ <;> (try (show (_ : Nat) * _ ≤ _; dsimp only))) | ((first | refine AOps.splitT rfl rfl rfl asm (fun h => ?_) | refine AOps.splitF rfl rfl rfl asm (fun h => ?_) | refine AOps.split rfl rfl rfl (fun h => ?_) (fun h => ?_)) <;> (fail_if_success (cases h; done)) <;> rw [h]))
        refine AK.freeze 3 rfl rfl rfl rfl ?_
        exact dq
      rw [vPar11b _ _ _ _ _ _ hi]
      have h1 := is_calls kind N P 23 S args
      rw [decide_eq_false hi] at h1
      refine QCalls.of Try.func123 rfl (fun args w => Try.call123 args w) (Nat.le_of_ble_eq_true rfl) [(0, .c (encTy (.mk 11 ts))), (1, .c (encNd (.mk kind N P S args)))] rfl fun β hβ => ?_; have hf := Try.func123
      refine AK.seq ?_
      refine AK.region Try.mixed rfl ?_
      repeat' (first | refine so ?_ | (refine uA rfl ?_ ?_ <;> (try (show (_ : Nat) * _ ≤ _; dsimp only))) | ((first | refine AOps.splitT rfl rfl rfl asm (fun h => ?_) | refine AOps.splitF rfl rfl rfl asm (fun h => ?_) | refine AOps.split rfl rfl rfl (fun h => ?_) (fun h => ?_)) <;> (fail_if_success (cases h; done)) <;> rw [h]))
      refine AK.freeze 3 rfl rfl rfl rfl ?_
      exact dq
    by_cases c : T = 12
    · subst c
      obtain ⟨u, u', rfl⟩ := tlen2 (show ts.length = 2 by have : arity 12 = 2 := by decide
                                                          omega)
      by_cases hi : kind = 2 ∧ P = 24
      · obtain ⟨rfl, rfl⟩ := hi
        rw [vPar12a]
        have h1 := is_calls 2 N 24 24 S args
        rw [show decide ((2 : Int) = 2 ∧ (24 : Int) = 24) = true from rfl] at h1
        have h2 := is_calls 2 N 24 25 S args
        rw [show decide ((2 : Int) = 2 ∧ (24 : Int) = 25) = false from rfl] at h2
        have hr := row_calls [u] args (by omega) fun x hx w hw => hin x hx w (tBads_mem hbs (by simp at hw ⊢; simp [hw])) (by have := tysSize_mem (l := [u, u']) (x := w) (by simp at hw ⊢; simp [hw]); omega)
        generalize vRow args [u] = z at hr
        refine QCalls.of Try.func123 rfl (fun args w => Try.call123 args w) (Nat.le_of_ble_eq_true rfl) [(0, .c (encTy (.mk 12 [u, u']))), (1, .c (encNd (.mk 2 N 24 S args)))] rfl fun β hβ => ?_; have hf := Try.func123
        refine AK.seq ?_
        refine AK.region Try.mixed rfl ?_
        repeat' (first | refine so ?_ | (refine uA rfl ?_ ?_ <;> (try (show (_ : Nat) * _ ≤ _; dsimp only))) | ((first | refine AOps.splitT rfl rfl rfl asm (fun h => ?_) | refine AOps.splitF rfl rfl rfl asm (fun h => ?_) | refine AOps.split rfl rfl rfl (fun h => ?_) (fun h => ?_)) <;> (fail_if_success (cases h; done)) <;> rw [h]))
        refine AK.freeze 3 rfl rfl rfl rfl ?_
        exact dq
      by_cases hj : kind = 2 ∧ P = 25
      · obtain ⟨rfl, rfl⟩ := hj
        rw [vPar12b]
        have h1 := is_calls 2 N 25 24 S args
        rw [show decide ((2 : Int) = 2 ∧ (25 : Int) = 24) = false from rfl] at h1
        have h2 := is_calls 2 N 25 25 S args
        rw [show decide ((2 : Int) = 2 ∧ (25 : Int) = 25) = true from rfl] at h2
        have hr := row_calls [u'] args (by omega) fun x hx w hw => hin x hx w (tBads_mem hbs (by simp at hw ⊢; simp [hw])) (by have := tysSize_mem (l := [u, u']) (x := w) (by simp at hw ⊢; simp [hw]); omega)
        generalize vRow args [u'] = z at hr
        refine QCalls.of Try.func123 rfl (fun args w => Try.call123 args w) (Nat.le_of_ble_eq_true rfl) [(0, .c (encTy (.mk 12 [u, u']))), (1, .c (encNd (.mk 2 N 25 S args)))] rfl fun β hβ => ?_; have hf := Try.func123
        refine AK.seq ?_
        refine AK.region Try.mixed rfl ?_
        repeat' (first | refine so ?_ | (refine uA rfl ?_ ?_ <;> (try (show (_ : Nat) * _ ≤ _; dsimp only))) | ((first | refine AOps.splitT rfl rfl rfl asm (fun h => ?_) | refine AOps.splitF rfl rfl rfl asm (fun h => ?_) | refine AOps.split rfl rfl rfl (fun h => ?_) (fun h => ?_)) <;> (fail_if_success (cases h; done)) <;> rw [h]))
        refine AK.freeze 3 rfl rfl rfl rfl ?_
        exact dq
      rw [vPar12c _ _ _ _ _ _ hi hj]
      have h1 := is_calls kind N P 24 S args
      have h2 := is_calls kind N P 25 S args
      rw [decide_eq_false hi] at h1
      rw [decide_eq_false hj] at h2
      refine QCalls.of Try.func123 rfl (fun args w => Try.call123 args w) (Nat.le_of_ble_eq_true rfl) [(0, .c (encTy (.mk 12 [u, u']))), (1, .c (encNd (.mk kind N P S args)))] rfl fun β hβ => ?_; have hf := Try.func123
      refine AK.seq ?_
      refine AK.region Try.mixed rfl ?_
      repeat' (first | refine so ?_ | (refine uA rfl ?_ ?_ <;> (try (show (_ : Nat) * _ ≤ _; dsimp only))) | ((first | refine AOps.splitT rfl rfl rfl asm (fun h => ?_) | refine AOps.splitF rfl rfl rfl asm (fun h => ?_) | refine AOps.split rfl rfl rfl (fun h => ?_) (fun h => ?_)) <;> (fail_if_success (cases h; done)) <;> rw [h]))
      refine AK.freeze 3 rfl rfl rfl rfl ?_
      exact dq
    by_cases c : T = 10
    · subst c
      obtain ⟨u, rfl⟩ := tlen1 (show ts.length = 1 by have : arity 10 = 1 := by decide
                                                      omega)
      rw [vPar10, ← int_eq]
      have hu : tBad u = false := tBads_mem hbs (by simp)
      have hus : tySize u ≤ 1048577 := by have := tysSize_mem (l := [u]) (x := u) (by simp); omega
      have g1 : [u][0]? = some u := rfl
      obtain ⟨U, us⟩ := u
      refine QCalls.of Try.func123 rfl (fun args w => Try.call123 args w) (Nat.le_of_ble_eq_true rfl) [(0, .c (encTy (.mk 10 [.mk U us]))), (1, .c (encNd (.mk kind N P S args)))] rfl fun β hβ => ?_; have hf := Try.func123
      refine AK.seq ?_
      refine AK.region Try.mixed rfl ?_
      repeat' (first | refine so ?_ | (refine uA rfl ?_ ?_ <;> (try (show (_ : Nat) * _ ≤ _; dsimp only))) | ((first | refine AOps.splitT rfl rfl rfl asm (fun h => ?_) | refine AOps.splitF rfl rfl rfl asm (fun h => ?_) | refine AOps.split rfl rfl rfl (fun h => ?_) (fun h => ?_)) <;> (fail_if_success (cases h; done)) <;> rw [h]))
      refine AK.freeze 3 rfl rfl rfl rfl ?_
      repeat' (first | refine st ?_ | (refine AK.condS rfl (fun h => ?_) (fun h => ?_) <;> first | (cases h; done) | rw [h] | skip) | refine uQ hf rfl rfl ?_ | (refine uA rfl ?_ ?_ <;> (try (show (_ : Nat) * _ ≤ _; dsimp only))) | ((first | refine AOps.splitT rfl rfl rfl asm (fun h => ?_) | refine AOps.splitF rfl rfl rfl asm (fun h => ?_) | refine AOps.split rfl rfl rfl (fun h => ?_) (fun h => ?_)) <;> (fail_if_success (cases h; done)) <;> rw [h]))
      refine AK.ren [(2, 2), (4, 4), (6, 6)] [(6004, (0, none))] (env' := [(139, .c (.int .i64 (0 : Nat))), (138, .c (.int .i64 (encNds args).length)), (137, .c (.sl 5 (encNds args))), (7, .c (.bool (kind == 3))), (2, .ptr 2 0), (4, .ptr 4 0), (6, .ptr 6 0)])
        (bs' := [(2, [.c (.int .i64 10), .c (.sl 2 (encTys [.mk U us]))]), (4, [.c (.int .i64 0), .c (.int .i64 0), .c (.int .i64 0), .c (.str []), .own .exact 7 [], .own .exact 2 [], .own .exact 5 []]), (6, [.c (.int .i64 10), .c (.int .i64 0), .c (.int .i64 0), .c (.str []), .own (.tok 6004 0) 7 [], .own .exact 2 [], .own .exact 5 []])]) (ts' := [(6004, 0)]) (us' := [2, 4, 6, 6004])
        ⟨⟨_, rfl, .inl rfl⟩, ⟨_, rfl, .inl rfl⟩, ⟨_, rfl, .inl rfl⟩, ⟨_, rfl, .inl rfl⟩, ⟨_, rfl, ⟨_, rfl, rfl⟩⟩, ⟨_, rfl, ⟨_, rfl, rfl⟩⟩, ⟨_, rfl, ⟨_, rfl, rfl⟩⟩, trivial⟩ ⟨⟨_, _, rfl, rfl, ⟨_, _, rfl, .inl rfl, ⟨_, _, rfl, .inl rfl, rfl⟩⟩⟩, ⟨_, _, rfl, rfl, ⟨_, _, rfl, .inl rfl, ⟨_, _, rfl, .inl rfl, ⟨_, _, rfl, .inl rfl, ⟨_, _, rfl, .inl rfl, ⟨_, _, rfl, rfl, ⟨_, _, rfl, rfl, ⟨_, _, rfl, rfl, rfl⟩⟩⟩⟩⟩⟩⟩⟩, ⟨_, _, rfl, rfl, ⟨_, _, rfl, .inl rfl, ⟨_, _, rfl, .inl rfl, ⟨_, _, rfl, .inl rfl, ⟨_, _, rfl, .inl rfl, ⟨_, _, rfl, ⟨_, rfl, .inl ⟨rfl, _, rfl, .inr rfl⟩⟩, ⟨_, _, rfl, rfl, ⟨_, _, rfl, rfl, rfl⟩⟩⟩⟩⟩⟩⟩⟩, trivial⟩ rfl ?_
      refine AK.loopE (α := Nat × List Vl × Bool) (fun z => z.1 ≤ args.length ∧ z.1 = z.2.1.length ∧ (vParAll args (.mk U us)).1 = z.2.1 ++ (vParAll (args.drop z.1) (.mk U us)).1 ∧ ((kind == 3) && (vParAll args (.mk U us)).2) = (z.2.2 && (vParAll (args.drop z.1) (.mk U us)).2)) (fun z => args.length - z.1)
        (fun z => [(139, .c (.int .i64 z.1)), (138, .c (.int .i64 (encNds args).length)), (137, .c (.sl 5 (encNds args))), (7, .c (.bool z.2.2)), (2, .ptr 2 0), (4, .ptr 4 0), (6, .ptr 6 0)]) (fun z => [(2, [.c (.int .i64 10), .c (.sl 2 (encTys [.mk U us]))]), (4, [.c (.int .i64 0), .c (.int .i64 0), .c (.int .i64 0), .c (.str []), .own .exact 7 [], .own .exact 2 [], .own .exact 5 []]), (6, [.c (.int .i64 10), .c (.int .i64 0), .c (.int .i64 0), .c (.str []), .own (.tok 6004 0) 7 (encVls z.2.1), .own .exact 2 [], .own .exact 5 []])]) (fun _ => [(6004, 0)]) [2, 4, 6, 6004] (0, [], (kind == 3))
        ⟨by omega, rfl, by simp, rfl⟩ ⟨.inl rfl, .inl rfl, .inl rfl, .inl rfl, .inl rfl, .inl rfl, .inl rfl, trivial⟩ ⟨rfl, rfl, rfl, trivial⟩ ⟨rfl, trivial⟩ rfl rfl rfl ?_
      rintro ⟨i, acc, okb⟩ ⟨hi, hia, hinv, hinvb⟩ ih
      simp only at hi hia hinv hinvb
      rcases get_or args i hi with ⟨x, hx, hm⟩ | he
      rotate_left
      · have hc := nds_end he
        rw [he, List.drop_length, vParAll_nil] at hinv hinvb
        simp only [List.append_nil, Bool.and_true] at hinv hinvb
        rw [hinv, hinvb]
        clear ih hinv hinvb
        exact dq
      have hc := nds_lt hx
      have h2 := lt_of_get hx
      have hq := hin x hm (.mk U us) hu hus
      rw [drop_at hx, vParAll_cons] at hinv hinvb
      rcases hr : vPar x (.mk U us) with ⟨⟨y1, y2, y3, y4, y5, y6, y7⟩, good⟩
      rw [hr] at hq hinv hinvb
      simp only at hq hinv hinvb
      rw [show ∀ (a : List Vl) (b : Vl) (c : List Vl), a ++ b :: c = a ++ [b] ++ c from fun a b c => by simp] at hinv
      obtain ⟨xk, xn, xp, xs, xa⟩ := x
      cases okb with
      | false =>
        repeat' (first | refine st ?_ | (refine AK.condS rfl (fun h => ?_) (fun h => ?_) <;> first | (cases h; done) | rw [h] | skip) | refine uQ hf rfl rfl ?_ | refine uI rfl (i) rfl (nds_at hx) rfl ?_ | refine uI rfl (0) rfl (tys_at g1) rfl ?_ | refine uC rfl hq ?_ | (refine uA rfl ?_ ?_ <;> (try (show (_ : Nat) * _ ≤ _; dsimp only))) | ((first | refine AOps.splitT rfl rfl rfl asm (fun h => ?_) | refine AOps.splitF rfl rfl rfl asm (fun h => ?_) | refine AOps.split rfl rfl rfl (fun h => ?_) (fun h => ?_)) <;> (fail_if_success (cases h; done)) <;> rw [h]))
        · have h1 := encVls_length acc
          simp only [List.length_cons, List.length_nil]
          omega
        · have hap : encVls acc ++ [encVl (Vl.mk y1 y2 y3 y4 y5 y6 y7)] = encVls (acc ++ [(Vl.mk y1 y2 y3 y4 y5 y6 y7)]) := (encVls_append acc [_]).symm
          refine AK.ren [(2, 2), (4, 4), (6, 6)] [(6004, (0, some 6004))] (env' := [(139, .c (.int .i64 ((i + 1 : Nat) : Int))), (138, .c (.int .i64 (encNds args).length)), (137, .c (.sl 5 (encNds args))), (7, .c (.bool false)), (2, .ptr 2 0), (4, .ptr 4 0), (6, .ptr 6 0)])
            (bs' := [(2, [.c (.int .i64 10), .c (.sl 2 (encTys [.mk U us]))]), (4, [.c (.int .i64 0), .c (.int .i64 0), .c (.int .i64 0), .c (.str []), .own .exact 7 [], .own .exact 2 [], .own .exact 5 []]), (6, [.c (.int .i64 10), .c (.int .i64 0), .c (.int .i64 0), .c (.str []), .own (.tok 6004 0) 7 (encVls (acc ++ [(Vl.mk y1 y2 y3 y4 y5 y6 y7)])), .own .exact 2 [], .own .exact 5 []])]) (ts' := [(6004, 0)]) (us' := [2, 4, 6, 6004])
            ⟨⟨_, rfl, .inl (succ64' (i := i) (by omega))⟩, ⟨_, rfl, .inl rfl⟩, ⟨_, rfl, .inl rfl⟩, ⟨_, rfl, .inl rfl⟩, ⟨_, rfl, ⟨_, rfl, rfl⟩⟩, ⟨_, rfl, ⟨_, rfl, rfl⟩⟩, ⟨_, rfl, ⟨_, rfl, rfl⟩⟩, trivial⟩ ⟨⟨_, _, rfl, rfl, ⟨_, _, rfl, .inl rfl, ⟨_, _, rfl, .inl rfl, rfl⟩⟩⟩, ⟨_, _, rfl, rfl, ⟨_, _, rfl, .inl rfl, ⟨_, _, rfl, .inl rfl, ⟨_, _, rfl, .inl rfl, ⟨_, _, rfl, .inl rfl, ⟨_, _, rfl, rfl, ⟨_, _, rfl, rfl, ⟨_, _, rfl, rfl, rfl⟩⟩⟩⟩⟩⟩⟩⟩, ⟨_, _, rfl, rfl, ⟨_, _, rfl, .inl rfl, ⟨_, _, rfl, .inl rfl, ⟨_, _, rfl, .inl rfl, ⟨_, _, rfl, .inl rfl, ⟨_, _, rfl, ⟨_, rfl, .inr ⟨_, _, rfl, rfl, congrArg (AV.own (.tok 6004 1) 7) hap⟩⟩, ⟨_, _, rfl, rfl, ⟨_, _, rfl, rfl, rfl⟩⟩⟩⟩⟩⟩⟩⟩, trivial⟩ rfl ?_
          exact ih (i + 1, acc ++ [(Vl.mk y1 y2 y3 y4 y5 y6 y7)], false) ⟨h2, by simp [hia], hinv, (by simpa using hinvb)⟩ (by show args.length - (i + 1) < args.length - i; omega)
      | true =>
        repeat' (first | refine st ?_ | (refine AK.condS rfl (fun h => ?_) (fun h => ?_) <;> first | (cases h; done) | rw [h] | skip) | refine uQ hf rfl rfl ?_ | refine uI rfl (i) rfl (nds_at hx) rfl ?_ | refine uI rfl (0) rfl (tys_at g1) rfl ?_ | refine uC rfl hq ?_ | (refine uA rfl ?_ ?_ <;> (try (show (_ : Nat) * _ ≤ _; dsimp only))) | ((first | refine AOps.splitT rfl rfl rfl asm (fun h => ?_) | refine AOps.splitF rfl rfl rfl asm (fun h => ?_) | refine AOps.split rfl rfl rfl (fun h => ?_) (fun h => ?_)) <;> (fail_if_success (cases h; done)) <;> rw [h]))
        · have h1 := encVls_length acc
          simp only [List.length_cons, List.length_nil]
          omega
        · have hap : encVls acc ++ [encVl (Vl.mk y1 y2 y3 y4 y5 y6 y7)] = encVls (acc ++ [(Vl.mk y1 y2 y3 y4 y5 y6 y7)]) := (encVls_append acc [_]).symm
          refine AK.ren [(2, 2), (4, 4), (6, 6)] [(6004, (0, some 6004))] (env' := [(139, .c (.int .i64 ((i + 1 : Nat) : Int))), (138, .c (.int .i64 (encNds args).length)), (137, .c (.sl 5 (encNds args))), (7, .c (.bool good)), (2, .ptr 2 0), (4, .ptr 4 0), (6, .ptr 6 0)])
            (bs' := [(2, [.c (.int .i64 10), .c (.sl 2 (encTys [.mk U us]))]), (4, [.c (.int .i64 0), .c (.int .i64 0), .c (.int .i64 0), .c (.str []), .own .exact 7 [], .own .exact 2 [], .own .exact 5 []]), (6, [.c (.int .i64 10), .c (.int .i64 0), .c (.int .i64 0), .c (.str []), .own (.tok 6004 0) 7 (encVls (acc ++ [(Vl.mk y1 y2 y3 y4 y5 y6 y7)])), .own .exact 2 [], .own .exact 5 []])]) (ts' := [(6004, 0)]) (us' := [2, 4, 6, 6004])
            ⟨⟨_, rfl, .inl (succ64' (i := i) (by omega))⟩, ⟨_, rfl, .inl rfl⟩, ⟨_, rfl, .inl rfl⟩, ⟨_, rfl, .inl rfl⟩, ⟨_, rfl, ⟨_, rfl, rfl⟩⟩, ⟨_, rfl, ⟨_, rfl, rfl⟩⟩, ⟨_, rfl, ⟨_, rfl, rfl⟩⟩, trivial⟩ ⟨⟨_, _, rfl, rfl, ⟨_, _, rfl, .inl rfl, ⟨_, _, rfl, .inl rfl, rfl⟩⟩⟩, ⟨_, _, rfl, rfl, ⟨_, _, rfl, .inl rfl, ⟨_, _, rfl, .inl rfl, ⟨_, _, rfl, .inl rfl, ⟨_, _, rfl, .inl rfl, ⟨_, _, rfl, rfl, ⟨_, _, rfl, rfl, ⟨_, _, rfl, rfl, rfl⟩⟩⟩⟩⟩⟩⟩⟩, ⟨_, _, rfl, rfl, ⟨_, _, rfl, .inl rfl, ⟨_, _, rfl, .inl rfl, ⟨_, _, rfl, .inl rfl, ⟨_, _, rfl, .inl rfl, ⟨_, _, rfl, ⟨_, rfl, .inr ⟨_, _, rfl, rfl, congrArg (AV.own (.tok 6004 1) 7) hap⟩⟩, ⟨_, _, rfl, rfl, ⟨_, _, rfl, rfl, rfl⟩⟩⟩⟩⟩⟩⟩⟩, trivial⟩ rfl ?_
          exact ih (i + 1, acc ++ [(Vl.mk y1 y2 y3 y4 y5 y6 y7)], good) ⟨h2, by simp [hia], hinv, (by simpa using hinvb)⟩ (by show args.length - (i + 1) < args.length - i; omega)
    by_cases c : T = 13
    · subst c
      rw [vPar13, ← int_eq]
      refine QCalls.of Try.func123 rfl (fun args w => Try.call123 args w) (Nat.le_of_ble_eq_true rfl) [(0, .c (encTy (.mk 13 ts))), (1, .c (encNd (.mk kind N P S args)))] rfl fun β hβ => ?_; have hf := Try.func123
      refine AK.seq ?_
      refine AK.region Try.mixed rfl ?_
      repeat' (first | refine so ?_ | (refine uA rfl ?_ ?_ <;> (try (show (_ : Nat) * _ ≤ _; dsimp only))) | ((first | refine AOps.splitT rfl rfl rfl asm (fun h => ?_) | refine AOps.splitF rfl rfl rfl asm (fun h => ?_) | refine AOps.split rfl rfl rfl (fun h => ?_) (fun h => ?_)) <;> (fail_if_success (cases h; done)) <;> rw [h]))
      refine AK.freeze 3 rfl rfl rfl rfl ?_
      repeat' (first | refine st ?_ | (refine AK.condS rfl (fun h => ?_) (fun h => ?_) <;> first | (cases h; done) | rw [h] | skip) | refine uQ hf rfl rfl ?_ | (refine uA rfl ?_ ?_ <;> (try (show (_ : Nat) * _ ≤ _; dsimp only))) | ((first | refine AOps.splitT rfl rfl rfl asm (fun h => ?_) | refine AOps.splitF rfl rfl rfl asm (fun h => ?_) | refine AOps.split rfl rfl rfl (fun h => ?_) (fun h => ?_)) <;> (fail_if_success (cases h; done)) <;> rw [h]))
      refine AK.ren [(2, 2), (4, 4), (6, 6)] [(6004, (0, none))] (env' := [(171, .c (.int .i64 (0 : Nat))), (170, .c (.int .i64 (encNds args).length)), (169, .c (.sl 5 (encNds args))), (7, .c (.bool (kind == 3))), (2, .ptr 2 0), (4, .ptr 4 0), (6, .ptr 6 0)])
        (bs' := [(2, [.c (.int .i64 13), .c (.sl 2 (encTys ts))]), (4, [.c (.int .i64 0), .c (.int .i64 0), .c (.int .i64 0), .c (.str []), .own .exact 7 [], .own .exact 2 [], .own .exact 5 []]), (6, [.c (.int .i64 13), .c (.int .i64 0), .c (.int .i64 0), .c (.str []), .own (.tok 6004 0) 7 [], .own .exact 2 [], .own .exact 5 []])]) (ts' := [(6004, 0)]) (us' := [2, 4, 6, 6004])
        ⟨⟨_, rfl, .inl rfl⟩, ⟨_, rfl, .inl rfl⟩, ⟨_, rfl, .inl rfl⟩, ⟨_, rfl, .inl rfl⟩, ⟨_, rfl, ⟨_, rfl, rfl⟩⟩, ⟨_, rfl, ⟨_, rfl, rfl⟩⟩, ⟨_, rfl, ⟨_, rfl, rfl⟩⟩, trivial⟩ ⟨⟨_, _, rfl, rfl, ⟨_, _, rfl, .inl rfl, ⟨_, _, rfl, .inl rfl, rfl⟩⟩⟩, ⟨_, _, rfl, rfl, ⟨_, _, rfl, .inl rfl, ⟨_, _, rfl, .inl rfl, ⟨_, _, rfl, .inl rfl, ⟨_, _, rfl, .inl rfl, ⟨_, _, rfl, rfl, ⟨_, _, rfl, rfl, ⟨_, _, rfl, rfl, rfl⟩⟩⟩⟩⟩⟩⟩⟩, ⟨_, _, rfl, rfl, ⟨_, _, rfl, .inl rfl, ⟨_, _, rfl, .inl rfl, ⟨_, _, rfl, .inl rfl, ⟨_, _, rfl, .inl rfl, ⟨_, _, rfl, ⟨_, rfl, .inl ⟨rfl, _, rfl, .inr rfl⟩⟩, ⟨_, _, rfl, rfl, ⟨_, _, rfl, rfl, rfl⟩⟩⟩⟩⟩⟩⟩⟩, trivial⟩ rfl ?_
      refine AK.loopE (α := Nat × List Vl × Bool) (fun z => z.1 ≤ args.length ∧ z.1 = z.2.1.length ∧ (vParMap args ts).1 = z.2.1 ++ (vParMap (args.drop z.1) ts).1 ∧ ((kind == 3) && (vParMap args ts).2) = (z.2.2 && (vParMap (args.drop z.1) ts).2)) (fun z => args.length - z.1)
        (fun z => [(171, .c (.int .i64 z.1)), (170, .c (.int .i64 (encNds args).length)), (169, .c (.sl 5 (encNds args))), (7, .c (.bool z.2.2)), (2, .ptr 2 0), (4, .ptr 4 0), (6, .ptr 6 0)]) (fun z => [(2, [.c (.int .i64 13), .c (.sl 2 (encTys ts))]), (4, [.c (.int .i64 0), .c (.int .i64 0), .c (.int .i64 0), .c (.str []), .own .exact 7 [], .own .exact 2 [], .own .exact 5 []]), (6, [.c (.int .i64 13), .c (.int .i64 0), .c (.int .i64 0), .c (.str []), .own (.tok 6004 0) 7 (encVls z.2.1), .own .exact 2 [], .own .exact 5 []])]) (fun _ => [(6004, 0)]) [2, 4, 6, 6004] (0, [], (kind == 3))
        ⟨by omega, rfl, by simp, rfl⟩ ⟨.inl rfl, .inl rfl, .inl rfl, .inl rfl, .inl rfl, .inl rfl, .inl rfl, trivial⟩ ⟨rfl, rfl, rfl, trivial⟩ ⟨rfl, trivial⟩ rfl rfl rfl ?_
      rintro ⟨i, acc, okb⟩ ⟨hi, hia, hinv, hinvb⟩ ih
      simp only at hi hia hinv hinvb
      rcases get_or args i hi with ⟨x, hx, hm⟩ | he
      rotate_left
      · have hc := nds_end he
        rw [he, List.drop_length, vParMap_nil] at hinv hinvb
        simp only [List.append_nil, Bool.and_true] at hinv hinvb
        rw [hinv, hinvb]
        clear ih hinv hinvb
        exact dq
      have hc := nds_lt hx
      have h2 := lt_of_get hx
      obtain ⟨xk, xn, xp, xs, xa⟩ := x
      have hxs := ndsSize_mem hm
      simp only [ndSize] at hxs
      have hxl := ndsSize_len xa
      have hq := row_calls ts xa (by omega) fun y hy u hu => hin2 xk xn xp xs xa hm y hy u (tBads_mem hbs hu) (by have := tysSize_mem hu; omega)
      rw [drop_at hx, vParMap_cons] at hinv hinvb
      rcases hr : vRow xa ts with ⟨q, good⟩
      rw [hr] at hq hinv hinvb
      simp only at hq hinv hinvb
      rw [show ∀ (a : List Vl) (b : Vl) (c : List Vl), a ++ b :: c = a ++ [b] ++ c from fun a b c => by simp] at hinv
      cases okb with
      | false =>
        repeat' (first | refine st ?_ | (refine AK.condS rfl (fun h => ?_) (fun h => ?_) <;> first | (cases h; done) | rw [h] | skip) | refine uQ hf rfl rfl ?_ | refine uI rfl (i) rfl (nds_at hx) rfl ?_ | refine uC rfl hq ?_ | (refine uA rfl ?_ ?_ <;> (try (show (_ : Nat) * _ ≤ _; dsimp only))) | ((first | refine AOps.splitT rfl rfl rfl asm (fun h => ?_) | refine AOps.splitF rfl rfl rfl asm (fun h => ?_) | refine AOps.split rfl rfl rfl (fun h => ?_) (fun h => ?_)) <;> (fail_if_success (cases h; done)) <;> rw [h]))
        · have h1 := encVls_length acc
          simp only [List.length_cons, List.length_nil]
          omega
        · have hap : encVls acc ++ [encVl (Vl.mk 11 0 0 [] q [] [])] = encVls (acc ++ [(Vl.mk 11 0 0 [] q [] [])]) := (encVls_append acc [_]).symm
          refine AK.ren [(2, 2), (4, 4), (6, 6)] [(6004, (0, some 6004))] (env' := [(171, .c (.int .i64 ((i + 1 : Nat) : Int))), (170, .c (.int .i64 (encNds args).length)), (169, .c (.sl 5 (encNds args))), (7, .c (.bool false)), (2, .ptr 2 0), (4, .ptr 4 0), (6, .ptr 6 0)])
            (bs' := [(2, [.c (.int .i64 13), .c (.sl 2 (encTys ts))]), (4, [.c (.int .i64 0), .c (.int .i64 0), .c (.int .i64 0), .c (.str []), .own .exact 7 [], .own .exact 2 [], .own .exact 5 []]), (6, [.c (.int .i64 13), .c (.int .i64 0), .c (.int .i64 0), .c (.str []), .own (.tok 6004 0) 7 (encVls (acc ++ [(Vl.mk 11 0 0 [] q [] [])])), .own .exact 2 [], .own .exact 5 []])]) (ts' := [(6004, 0)]) (us' := [2, 4, 6, 6004])
            ⟨⟨_, rfl, .inl (succ64' (i := i) (by omega))⟩, ⟨_, rfl, .inl rfl⟩, ⟨_, rfl, .inl rfl⟩, ⟨_, rfl, .inl rfl⟩, ⟨_, rfl, ⟨_, rfl, rfl⟩⟩, ⟨_, rfl, ⟨_, rfl, rfl⟩⟩, ⟨_, rfl, ⟨_, rfl, rfl⟩⟩, trivial⟩ ⟨⟨_, _, rfl, rfl, ⟨_, _, rfl, .inl rfl, ⟨_, _, rfl, .inl rfl, rfl⟩⟩⟩, ⟨_, _, rfl, rfl, ⟨_, _, rfl, .inl rfl, ⟨_, _, rfl, .inl rfl, ⟨_, _, rfl, .inl rfl, ⟨_, _, rfl, .inl rfl, ⟨_, _, rfl, rfl, ⟨_, _, rfl, rfl, ⟨_, _, rfl, rfl, rfl⟩⟩⟩⟩⟩⟩⟩⟩, ⟨_, _, rfl, rfl, ⟨_, _, rfl, .inl rfl, ⟨_, _, rfl, .inl rfl, ⟨_, _, rfl, .inl rfl, ⟨_, _, rfl, .inl rfl, ⟨_, _, rfl, ⟨_, rfl, .inr ⟨_, _, rfl, rfl, congrArg (AV.own (.tok 6004 1) 7) hap⟩⟩, ⟨_, _, rfl, rfl, ⟨_, _, rfl, rfl, rfl⟩⟩⟩⟩⟩⟩⟩⟩, trivial⟩ rfl ?_
          exact ih (i + 1, acc ++ [(Vl.mk 11 0 0 [] q [] [])], false) ⟨h2, by simp [hia], hinv, (by simpa using hinvb)⟩ (by show args.length - (i + 1) < args.length - i; omega)
      | true =>
        cases good with
        | false =>
          repeat' (first | refine st ?_ | (refine AK.condS rfl (fun h => ?_) (fun h => ?_) <;> first | (cases h; done) | rw [h] | skip) | refine uQ hf rfl rfl ?_ | refine uI rfl (i) rfl (nds_at hx) rfl ?_ | refine uC rfl hq ?_ | (refine uA rfl ?_ ?_ <;> (try (show (_ : Nat) * _ ≤ _; dsimp only))) | ((first | refine AOps.splitT rfl rfl rfl asm (fun h => ?_) | refine AOps.splitF rfl rfl rfl asm (fun h => ?_) | refine AOps.split rfl rfl rfl (fun h => ?_) (fun h => ?_)) <;> (fail_if_success (cases h; done)) <;> rw [h]))
          · have h1 := encVls_length acc
            simp only [List.length_cons, List.length_nil]
            omega
          · have hap : encVls acc ++ [encVl (Vl.mk 11 0 0 [] q [] [])] = encVls (acc ++ [(Vl.mk 11 0 0 [] q [] [])]) := (encVls_append acc [_]).symm
            refine AK.ren [(2, 2), (4, 4), (6, 6)] [(6004, (0, some 6004))] (env' := [(171, .c (.int .i64 ((i + 1 : Nat) : Int))), (170, .c (.int .i64 (encNds args).length)), (169, .c (.sl 5 (encNds args))), (7, .c (.bool false)), (2, .ptr 2 0), (4, .ptr 4 0), (6, .ptr 6 0)])
              (bs' := [(2, [.c (.int .i64 13), .c (.sl 2 (encTys ts))]), (4, [.c (.int .i64 0), .c (.int .i64 0), .c (.int .i64 0), .c (.str []), .own .exact 7 [], .own .exact 2 [], .own .exact 5 []]), (6, [.c (.int .i64 13), .c (.int .i64 0), .c (.int .i64 0), .c (.str []), .own (.tok 6004 0) 7 (encVls (acc ++ [(Vl.mk 11 0 0 [] q [] [])])), .own .exact 2 [], .own .exact 5 []])]) (ts' := [(6004, 0)]) (us' := [2, 4, 6, 6004])
              ⟨⟨_, rfl, .inl (succ64' (i := i) (by omega))⟩, ⟨_, rfl, .inl rfl⟩, ⟨_, rfl, .inl rfl⟩, ⟨_, rfl, .inl rfl⟩, ⟨_, rfl, ⟨_, rfl, rfl⟩⟩, ⟨_, rfl, ⟨_, rfl, rfl⟩⟩, ⟨_, rfl, ⟨_, rfl, rfl⟩⟩, trivial⟩ ⟨⟨_, _, rfl, rfl, ⟨_, _, rfl, .inl rfl, ⟨_, _, rfl, .inl rfl, rfl⟩⟩⟩, ⟨_, _, rfl, rfl, ⟨_, _, rfl, .inl rfl, ⟨_, _, rfl, .inl rfl, ⟨_, _, rfl, .inl rfl, ⟨_, _, rfl, .inl rfl, ⟨_, _, rfl, rfl, ⟨_, _, rfl, rfl, ⟨_, _, rfl, rfl, rfl⟩⟩⟩⟩⟩⟩⟩⟩, ⟨_, _, rfl, rfl, ⟨_, _, rfl, .inl rfl, ⟨_, _, rfl, .inl rfl, ⟨_, _, rfl, .inl rfl, ⟨_, _, rfl, .inl rfl, ⟨_, _, rfl, ⟨_, rfl, .inr ⟨_, _, rfl, rfl, congrArg (AV.own (.tok 6004 1) 7) hap⟩⟩, ⟨_, _, rfl, rfl, ⟨_, _, rfl, rfl, rfl⟩⟩⟩⟩⟩⟩⟩⟩, trivial⟩ rfl ?_
            exact ih (i + 1, acc ++ [(Vl.mk 11 0 0 [] q [] [])], false) ⟨h2, by simp [hia], hinv, (by simpa using hinvb)⟩ (by show args.length - (i + 1) < args.length - i; omega)
        | true =>
          by_cases k2 : xk = 2
          rotate_left
          · have e2 : (xk == 2) = false := by simpa using k2
            have hb' : ((kind == 3) && (vParMap args ts).2) = (false && (vParMap (args.drop (i + 1)) ts).2) := by rw [hinvb]; simp [k2]
            repeat' (first | refine st ?_ | (refine AK.condS rfl (fun h => ?_) (fun h => ?_) <;> first | (cases h; done) | rw [h] | skip) | refine uQ hf rfl rfl ?_ | refine uI rfl (i) rfl (nds_at hx) rfl ?_ | refine uC rfl hq ?_ | (refine uA rfl ?_ ?_ <;> (try (show (_ : Nat) * _ ≤ _; dsimp only))) | ((first | refine AOps.splitT rfl rfl rfl asm (fun h => ?_) | refine AOps.splitF rfl rfl rfl asm (fun h => ?_) | refine AOps.split rfl rfl rfl (fun h => ?_) (fun h => ?_)) <;> (fail_if_success (cases h; done)) <;> rw [h]))
            · have h1 := encVls_length acc
              simp only [List.length_cons, List.length_nil]
              omega
            · have hap : encVls acc ++ [encVl (Vl.mk 11 0 0 [] q [] [])] = encVls (acc ++ [(Vl.mk 11 0 0 [] q [] [])]) := (encVls_append acc [_]).symm
              refine AK.ren [(2, 2), (4, 4), (6, 6)] [(6004, (0, some 6004))] (env' := [(171, .c (.int .i64 ((i + 1 : Nat) : Int))), (170, .c (.int .i64 (encNds args).length)), (169, .c (.sl 5 (encNds args))), (7, .c (.bool false)), (2, .ptr 2 0), (4, .ptr 4 0), (6, .ptr 6 0)])
                (bs' := [(2, [.c (.int .i64 13), .c (.sl 2 (encTys ts))]), (4, [.c (.int .i64 0), .c (.int .i64 0), .c (.int .i64 0), .c (.str []), .own .exact 7 [], .own .exact 2 [], .own .exact 5 []]), (6, [.c (.int .i64 13), .c (.int .i64 0), .c (.int .i64 0), .c (.str []), .own (.tok 6004 0) 7 (encVls (acc ++ [(Vl.mk 11 0 0 [] q [] [])])), .own .exact 2 [], .own .exact 5 []])]) (ts' := [(6004, 0)]) (us' := [2, 4, 6, 6004])
                ⟨⟨_, rfl, .inl (succ64' (i := i) (by omega))⟩, ⟨_, rfl, .inl rfl⟩, ⟨_, rfl, .inl rfl⟩, ⟨_, rfl, .inl rfl⟩, ⟨_, rfl, ⟨_, rfl, rfl⟩⟩, ⟨_, rfl, ⟨_, rfl, rfl⟩⟩, ⟨_, rfl, ⟨_, rfl, rfl⟩⟩, trivial⟩ ⟨⟨_, _, rfl, rfl, ⟨_, _, rfl, .inl rfl, ⟨_, _, rfl, .inl rfl, rfl⟩⟩⟩, ⟨_, _, rfl, rfl, ⟨_, _, rfl, .inl rfl, ⟨_, _, rfl, .inl rfl, ⟨_, _, rfl, .inl rfl, ⟨_, _, rfl, .inl rfl, ⟨_, _, rfl, rfl, ⟨_, _, rfl, rfl, ⟨_, _, rfl, rfl, rfl⟩⟩⟩⟩⟩⟩⟩⟩, ⟨_, _, rfl, rfl, ⟨_, _, rfl, .inl rfl, ⟨_, _, rfl, .inl rfl, ⟨_, _, rfl, .inl rfl, ⟨_, _, rfl, .inl rfl, ⟨_, _, rfl, ⟨_, rfl, .inr ⟨_, _, rfl, rfl, congrArg (AV.own (.tok 6004 1) 7) hap⟩⟩, ⟨_, _, rfl, rfl, ⟨_, _, rfl, rfl, rfl⟩⟩⟩⟩⟩⟩⟩⟩, trivial⟩ rfl ?_
              exact ih (i + 1, acc ++ [(Vl.mk 11 0 0 [] q [] [])], false) ⟨h2, by simp [hia], hinv, hb'⟩ (by show args.length - (i + 1) < args.length - i; omega)
          subst k2
          have hb' : ((kind == 3) && (vParMap args ts).2) = ((xp == 28) && (vParMap (args.drop (i + 1)) ts).2) := by rw [hinvb, int_eq]; simp
          repeat' (first | refine st ?_ | (refine AK.condS rfl (fun h => ?_) (fun h => ?_) <;> first | (cases h; done) | rw [h] | skip) | refine uQ hf rfl rfl ?_ | refine uI rfl (i) rfl (nds_at hx) rfl ?_ | refine uC rfl hq ?_ | (refine uA rfl ?_ ?_ <;> (try (show (_ : Nat) * _ ≤ _; dsimp only))) | ((first | refine AOps.splitT rfl rfl rfl asm (fun h => ?_) | refine AOps.splitF rfl rfl rfl asm (fun h => ?_) | refine AOps.split rfl rfl rfl (fun h => ?_) (fun h => ?_)) <;> (fail_if_success (cases h; done)) <;> rw [h]))
          · have h1 := encVls_length acc
            simp only [List.length_cons, List.length_nil]
            omega
          · have hap : encVls acc ++ [encVl (Vl.mk 11 0 0 [] q [] [])] = encVls (acc ++ [(Vl.mk 11 0 0 [] q [] [])]) := (encVls_append acc [_]).symm
            refine AK.ren [(2, 2), (4, 4), (6, 6)] [(6004, (0, some 6004))] (env' := [(171, .c (.int .i64 ((i + 1 : Nat) : Int))), (170, .c (.int .i64 (encNds args).length)), (169, .c (.sl 5 (encNds args))), (7, .c (.bool (xp == 28))), (2, .ptr 2 0), (4, .ptr 4 0), (6, .ptr 6 0)])
              (bs' := [(2, [.c (.int .i64 13), .c (.sl 2 (encTys ts))]), (4, [.c (.int .i64 0), .c (.int .i64 0), .c (.int .i64 0), .c (.str []), .own .exact 7 [], .own .exact 2 [], .own .exact 5 []]), (6, [.c (.int .i64 13), .c (.int .i64 0), .c (.int .i64 0), .c (.str []), .own (.tok 6004 0) 7 (encVls (acc ++ [(Vl.mk 11 0 0 [] q [] [])])), .own .exact 2 [], .own .exact 5 []])]) (ts' := [(6004, 0)]) (us' := [2, 4, 6, 6004])
              ⟨⟨_, rfl, .inl (succ64' (i := i) (by omega))⟩, ⟨_, rfl, .inl rfl⟩, ⟨_, rfl, .inl rfl⟩, ⟨_, rfl, .inl rfl⟩, ⟨_, rfl, ⟨_, rfl, rfl⟩⟩, ⟨_, rfl, ⟨_, rfl, rfl⟩⟩, ⟨_, rfl, ⟨_, rfl, rfl⟩⟩, trivial⟩ ⟨⟨_, _, rfl, rfl, ⟨_, _, rfl, .inl rfl, ⟨_, _, rfl, .inl rfl, rfl⟩⟩⟩, ⟨_, _, rfl, rfl, ⟨_, _, rfl, .inl rfl, ⟨_, _, rfl, .inl rfl, ⟨_, _, rfl, .inl rfl, ⟨_, _, rfl, .inl rfl, ⟨_, _, rfl, rfl, ⟨_, _, rfl, rfl, ⟨_, _, rfl, rfl, rfl⟩⟩⟩⟩⟩⟩⟩⟩, ⟨_, _, rfl, rfl, ⟨_, _, rfl, .inl rfl, ⟨_, _, rfl, .inl rfl, ⟨_, _, rfl, .inl rfl, ⟨_, _, rfl, .inl rfl, ⟨_, _, rfl, ⟨_, rfl, .inr ⟨_, _, rfl, rfl, congrArg (AV.own (.tok 6004 1) 7) hap⟩⟩, ⟨_, _, rfl, rfl, ⟨_, _, rfl, rfl, rfl⟩⟩⟩⟩⟩⟩⟩⟩, trivial⟩ rfl ?_
            exact ih (i + 1, acc ++ [(Vl.mk 11 0 0 [] q [] [])], (xp == 28)) ⟨h2, by simp [hia], hinv, hb'⟩ (by show args.length - (i + 1) < args.length - i; omega)
    have hT : T = 8 ∨ T = 14 ∨ T = 15 := by have := arity_in har; omega
    rw [vParX T kind N P hT]
    rcases hT with rfl | rfl | rfl
    · refine QCalls.of Try.func123 rfl (fun args w => Try.call123 args w) (Nat.le_of_ble_eq_true rfl) [(0, .c (encTy (.mk 8 ts))), (1, .c (encNd (.mk kind N P S args)))] rfl fun β hβ => ?_; have hf := Try.func123
      refine AK.seq ?_
      refine AK.region Try.mixed rfl ?_
      repeat' (first | refine so ?_ | (refine uA rfl ?_ ?_ <;> (try (show (_ : Nat) * _ ≤ _; dsimp only))) | ((first | refine AOps.splitT rfl rfl rfl asm (fun h => ?_) | refine AOps.splitF rfl rfl rfl asm (fun h => ?_) | refine AOps.split rfl rfl rfl (fun h => ?_) (fun h => ?_)) <;> (fail_if_success (cases h; done)) <;> rw [h]))
      refine AK.freeze 3 rfl rfl rfl rfl ?_
      exact dq
    · refine QCalls.of Try.func123 rfl (fun args w => Try.call123 args w) (Nat.le_of_ble_eq_true rfl) [(0, .c (encTy (.mk 14 ts))), (1, .c (encNd (.mk kind N P S args)))] rfl fun β hβ => ?_; have hf := Try.func123
      refine AK.seq ?_
      refine AK.region Try.mixed rfl ?_
      repeat' (first | refine so ?_ | (refine uA rfl ?_ ?_ <;> (try (show (_ : Nat) * _ ≤ _; dsimp only))) | ((first | refine AOps.splitT rfl rfl rfl asm (fun h => ?_) | refine AOps.splitF rfl rfl rfl asm (fun h => ?_) | refine AOps.split rfl rfl rfl (fun h => ?_) (fun h => ?_)) <;> (fail_if_success (cases h; done)) <;> rw [h]))
      refine AK.freeze 3 rfl rfl rfl rfl ?_
      exact dq
    · refine QCalls.of Try.func123 rfl (fun args w => Try.call123 args w) (Nat.le_of_ble_eq_true rfl) [(0, .c (encTy (.mk 15 ts))), (1, .c (encNd (.mk kind N P S args)))] rfl fun β hβ => ?_; have hf := Try.func123
      refine AK.seq ?_
      refine AK.region Try.mixed rfl ?_
      repeat' (first | refine so ?_ | (refine uA rfl ?_ ?_ <;> (try (show (_ : Nat) * _ ≤ _; dsimp only))) | ((first | refine AOps.splitT rfl rfl rfl asm (fun h => ?_) | refine AOps.splitF rfl rfl rfl asm (fun h => ?_) | refine AOps.split rfl rfl rfl (fun h => ?_) (fun h => ?_)) <;> (fail_if_success (cases h; done)) <;> rw [h]))
      refine AK.freeze 3 rfl rfl rfl rfl ?_
      exact dq
termination_by n => SizeOf.sizeOf n
decreasing_by
  · have h1 := List.sizeOf_lt_of_mem hx
    simp at h1 ⊢; omega
  · have h1 := List.sizeOf_lt_of_mem hx
    have h2 := List.sizeOf_lt_of_mem hy
    simp at h1 h2 ⊢; omega
end Go.Proofs

set_option linter.unusedVariables false
set_option linter.unusedSimpArgs false
namespace Go.Abs

theorem ofInt_nat (w a : Nat) : (BitVec.ofInt w (a : Int)).toNat = a % 2 ^ w := by
  rw [BitVec.ofInt_natCast, BitVec.toNat_ofNat]
theorem and_low {a : Nat} (h : a < 9223372036854775808) (k : Nat) (hk : k < 63) : IntKind.i64.wrap (((BitVec.ofInt 64 (a : Int)) &&& (BitVec.ofInt 64 ((2 ^ k - 1 : Nat) : Int))).toNat) = ((a % 2 ^ k : Nat) : Int) := by
  have h2 : (2 : Nat) ^ k ≤ 2 ^ 62 := Nat.pow_le_pow_right (by omega) (by omega)
  have h3 : 0 < (2 : Nat) ^ k := Nat.pow_pos (by omega)
  rw [BitVec.toNat_and, ofInt_nat, ofInt_nat, Nat.mod_eq_of_lt (show a < 2 ^ 64 by omega), Nat.mod_eq_of_lt (show 2 ^ k - 1 < 2 ^ 64 by omega), Nat.and_two_pow_sub_one_eq_mod]
  have h4 : a % 2 ^ k < 2 ^ k := Nat.mod_lt _ h3
  exact w64 (by omega) (by omega)
theorem and63 {a : Nat} (h : a < 9223372036854775808) : IntKind.i64.wrap (((BitVec.ofInt 64 (a : Int)) &&& (BitVec.ofInt 64 63)).toNat) = ((a % 64 : Nat) : Int) := and_low h 6 (by omega)
theorem and127 {a : Nat} (h : a < 9223372036854775808) : IntKind.i64.wrap (((BitVec.ofInt 64 (a : Int)) &&& (BitVec.ofInt 64 127)).toNat) = ((a % 128 : Nat) : Int) := and_low h 7 (by omega)
theorem and64_fin : ∀ c : Fin 256, (IntKind.i64.wrap (((BitVec.ofInt 64 ((c.val : Nat) : Int)) &&& (BitVec.ofInt 64 64)).toNat) != 0) = decide (c.val / 64 % 2 = 1) := by decide +kernel
theorem and64 {c : Nat} (h : c < 256) : (IntKind.i64.wrap (((BitVec.ofInt 64 (c : Int)) &&& (BitVec.ofInt 64 64)).toNat) != 0) = decide (c / 64 % 2 = 1) := and64_fin ⟨c, h⟩
theorem and64u_fin : ∀ c : Fin 256, (IntKind.u8.wrap (((BitVec.ofInt 8 ((c.val : Nat) : Int)) &&& (BitVec.ofInt 8 64)).toNat) != 0) = decide (c.val / 64 % 2 = 1) := by decide +kernel
theorem and64u {c : Nat} (h : c < 256) : (IntKind.u8.wrap (((BitVec.ofInt 8 (c : Int)) &&& (BitVec.ofInt 8 64)).toNat) != 0) = decide (c / 64 % 2 = 1) := and64u_fin ⟨c, h⟩
theorem or_shift {n x sh : Nat} (hn : n < 2 ^ sh) (hx : x < 128) (hs : sh ≤ 55) : IntKind.i64.wrap (((BitVec.ofInt 64 (n : Int)) ||| (BitVec.ofInt 64 (IntKind.i64.wrap ((x : Int) * 2 ^ (min sh 64))))).toNat) = ((n + x * 2 ^ sh : Nat) : Int) := by
  have h2 : (2 : Nat) ^ sh ≤ 2 ^ 55 := Nat.pow_le_pow_right (by omega) hs
  have h3 : x * 2 ^ sh ≤ 127 * 2 ^ 55 := Nat.mul_le_mul (by omega) h2
  have e : (x : Int) * 2 ^ (min sh 64) = ((x * 2 ^ sh : Nat) : Int) := by
    rw [Nat.min_eq_left (by omega)]; simp
  rw [e, w64 (n := ((x * 2 ^ sh : Nat) : Int)) (by omega) (by omega), BitVec.toNat_or, ofInt_nat, ofInt_nat, Nat.mod_eq_of_lt (show n < 2 ^ 64 by omega), Nat.mod_eq_of_lt (show x * 2 ^ sh < 2 ^ 64 by omega)]
  rw [Nat.or_comm, ← Nat.shiftLeft_eq, ← Nat.shiftLeft_add_eq_or_of_lt hn x, Nat.shiftLeft_eq, Nat.add_comm]
  exact w64 (by omega) (by omega)
end Go.Abs

-- WIDE
-- OLDASM
set_option linter.unusedVariables false
set_option linter.unusedSimpArgs false
namespace Go.Proofs
open Go.Abs

theorem rows1 (rows : List CV) (l : List UInt8) (b : UInt8) (z : Int) (h : z = (b.toNat : Int)) : rows ++ byteRows l ++ [CV.int .u8 z] = rows ++ byteRows (l ++ [b]) := by
  subst h; simp [byteRows]
theorem putB_len : ∀ (m c : Nat), (putB c m).length ≤ m + 1 := by
  intro m
  induction m using Nat.strongRecOn with
  | ind m ih =>
    intro c
    by_cases hm : m = 0
    · subst hm; rw [putB_zero]; simp
    · rw [putB_more _ _ hm]
      have := ih (m / 128) (by omega) (m % 128)
      simp only [List.length_cons]; omega
attribute [local irreducible] AK AOps QCalls ECalls

end Go.Proofs

-- WIDE
-- OLDASM
set_option linter.unusedVariables false
set_option linter.unusedSimpArgs false
namespace Go.Proofs
open Go.Abs

theorem wrongs_at {l : List Nd} {d : Int} (h : wrongs l d = 0) : ∀ x ∈ l, wrong x d = 0 := by
  induction l with
  | nil => intro x hx; simp at hx
  | cons y l ih =>
    intro x hx
    simp only [wrongs] at h
    by_cases hy : wrong y d = 0
    · rw [if_pos hy] at h
      rcases List.mem_cons.1 hx with rfl | hx
      · exact hy
      · exact ih h x hx
    · rw [if_neg hy] at h; exact absurd h hy
theorem bytes0 (n p : Int) (s : List UInt8) (args : List Nd) : bytesN (.mk 0 n p s args) = Go.Abs.byteOf 0 :: numB n := by simp [bytesN]
theorem bytes1 (n p : Int) (s : List UInt8) (args : List Nd) : bytesN (.mk 1 n p s args) = Go.Abs.byteOf 1 :: (numB (s.length : Int) ++ s) := by simp [bytesN]
theorem bytes2 (n p : Int) (s : List UInt8) (args : List Nd) : bytesN (.mk 2 n p s args) = Go.Abs.byteOf 2 :: Go.Abs.byteOf p :: (numB (args.length : Int) ++ bytesNs args) := by simp [bytesN]
theorem bytes3 (n p : Int) (s : List UInt8) (args : List Nd) : bytesN (.mk 3 n p s args) = Go.Abs.byteOf 3 :: (numB (args.length : Int) ++ bytesNs args) := by simp [bytesN]
attribute [local irreducible] AK AOps QCalls ECalls bytesN bytesNs numB wrong wrongs

end Go.Proofs

set_option linter.unusedVariables false
set_option linter.unusedSimpArgs false
namespace Go.Abs
section
variable {P : Program} {X : Ctx} {f : FuncId} {n : Nat} {β : Base} {R : Ending → World → Prop} {K : List Item} {env : Env}
/-- Leaving with boxes at the end of the text. -/
theorem AK.endE (hX : CtxOk P X) {fn : Func} (hf : P.funcs[f]? = some fn) {bs : List (Nat × List AV)} {ts : List (Nat × Nat)} {us : List Nat} {rs rs' : List LV} {os os' : List (Nat × List LV)} {l : List AV} (hr : ares X bs env fn.results.toList = some l)
    (h1 : mkLVs ts rs l = some rs') (h2 : mkOuts bs ts os = some os') (hc : both (leaveCheck (bxOuts os') (tkOuts bs os' ++ tkLVs 0 rk rs' l)) (distinct (keysOf (obxs os'))) = true)
    (e1 : rs' = rs) (e2 : os' = os) : AK P X f n β (ER β rs os) [] env ⟨bs, ts, us⟩ := by
  subst e1 e2
  intro g w a cs hL
  obtain ⟨u, h3, h4⟩ := ares_results hX hL hr
  obtain ⟨c1, c2⟩ := both_eq hc
  have hok := mkLVs_ok h1
  obtain ⟨i1, i2, i3⟩ := leave_inv hL.inv hok (mkOuts_ok h2) c1 c2
  refine ⟨.returned u, w, _, ⟨u, _, rfl, ?_, i1, hL.frame.trans i2⟩, .one step_end, rfl, rfl, hL.defers, rfl, fn, hf, h3⟩
  have hts := inv_toks hL.inv
  show RelA _ _ _
  match rs', hok, i3 with
  | [], hok, i3 =>
    simp only [okLVs] at hok; subst hok
    simp only [retAV, RelA, Rel]; exact h4
  | [x], hok, i3 =>
    simp only [okLVs] at hok
    obtain ⟨y, r, rfl, _, rfl⟩ := hok
    simp only [avs, ConvL] at i3
    obtain ⟨b, r', h5, h6, _⟩ := i3
    simp at h5; obtain ⟨rfl, _⟩ := h5
    simp only [retAV]
    exact (conv_ok hts h6 h4).1
  | x :: x' :: r, hok, i3 =>
    simp only [okLVs] at hok
    obtain ⟨y, q, rfl, _, y', q', rfl, _, _⟩ := hok
    simp only [retAV]
    refine (conv_ok hts (b := .tup (y :: y' :: q')) ?_ h4).1
    simp only [Conv]
    exact ⟨_, rfl, i3⟩

end
end Go.Abs

set_option linter.unusedVariables false
set_option linter.unusedSimpArgs false
namespace Go.Abs

/-- What number gives, what it leaves, whether it went wrong. -/
def numVal : List UInt8 → Int
  | [] => 0
  | b :: s => match takeFirst b s with
    | none => 0
    | some (n, _) => if b.toNat / 64 % 2 = 1 then -(n : Int) else n
def numRest (s : List UInt8) : List UInt8 := match takeNum s with
  | some (_, r) => r
  | none => []
def numErr (s : List UInt8) : Int := match takeNum s with
  | some _ => 0
  | none => 1

structure RX where
  n : Nd
  s : List UInt8
  k : Int
  e : Int

def rdRowX (f : List UInt8 → Int → RX) : Nat → List UInt8 → Int → Int → List Nd × List UInt8 × Int × Int
  | 0, s, k, e => ([], s, k, e)
  | v + 1, s, k, e => if e ≠ 0 then ([], s, k, e) else
    ((f s k).n :: (rdRowX f v (f s k).s (f s k).k (f s k).e).1, (rdRowX f v (f s k).s (f s k).k (f s k).e).2)

def rdArgsX (f : List UInt8 → Int → RX) (kind p : Int) (s : List UInt8) (k : Int) : RX :=
  if numErr s ≠ 0 ∨ numVal s < 0 then ⟨.mk kind 0 p [] [], [], k, 1⟩ else
    ⟨.mk kind 0 p [] (rdRowX f (numVal s).toNat (numRest s) k 0).1, (rdRowX f (numVal s).toNat (numRest s) k 0).2.1, (rdRowX f (numVal s).toNat (numRest s) k 0).2.2.1, (rdRowX f (numVal s).toNat (numRest s) k 0).2.2.2⟩

def rdBodyX (f : List UInt8 → Int → RX) (c : Nat) (s : List UInt8) (k : Int) : RX :=
  if c = 0 then ⟨.mk 0 (numVal s) 0 [] [], numRest s, k, numErr s⟩
  else if c = 1 then (if numVal s < 0 ∨ numVal s > 200 ∨ numVal s > (numRest s).length then ⟨.mk 1 0 0 [] [], [], k, 1⟩ else ⟨.mk 1 0 0 ((numRest s).take (numVal s).toNat) [], (numRest s).drop (numVal s).toNat, k, numErr s⟩)
  else if c = 2 then (match s with
    | [] => ⟨.mk 2 0 0 [] [], [], k, 1⟩
    | p :: s2 => if primP p.toNat = true then rdArgsX f 2 p.toNat s2 k else ⟨.mk 2 0 p.toNat [] [], [], k, 1⟩)
  else if c = 3 then rdArgsX f 3 0 s k
  else ⟨.mk c 0 0 [] [], [], k, 1⟩

def rdX : Nat → List UInt8 → Int → RX
  | 0, _, k => ⟨nd0, [], k + 1, 4⟩
  | g + 1, s, k => if k + 1 > 300 then ⟨nd0, [], k + 1, 4⟩ else match s with
    | [] => ⟨nd0, [], k + 1, 1⟩
    | c :: s' => rdBodyX (rdX g) c.toNat s' (k + 1)

theorem num_some {s : List UInt8} {n : Int} {r : List UInt8} (h : takeNum s = some (n, r)) : numVal s = n ∧ numRest s = r ∧ numErr s = 0 := by
  refine ⟨?_, by simp [numRest, h], by simp [numErr, h]⟩
  cases s with
  | nil => simp [takeNum] at h
  | cons b s =>
    simp only [takeNum] at h
    simp only [numVal]
    split at h
    · simp at h
    · rename_i v r' hv
      rw [hv]
      split at h
      · simp at h
      · simp at h; exact h.1
theorem num_none {s : List UInt8} (h : takeNum s = none) : numRest s = [] ∧ numErr s = 1 := ⟨by simp [numRest, h], by simp [numErr, h]⟩

/-- What was read by the one is what was read by the other. -/
def Like (x : RX) : Rd Nd → Prop
  | .ok n r l => x = ⟨n, r, 300 - (l : Int), 0⟩ ∧ l ≤ 300
  | .no e => x.s = [] ∧ x.e = e ∧ e ≠ 0

theorem rdX_like : ∀ (g : Nat) (s : List UInt8) (left : Nat), left ≤ 300 → Like (rdX g s (300 - (left : Int))) (rdNode g s left)
  | 0, s, left, hl => by simp [rdX, rdNode, Like]
  | g + 1, s, left, hl => by
    have hrow : ∀ (v : Nat) (s : List UInt8) (left : Nat), left ≤ 300 → match rdRow (rdNode g) v s left with
        | .ok l r left' => rdRowX (rdX g) v s (300 - (left : Int)) 0 = (l, r, 300 - (left' : Int), 0) ∧ left' ≤ 300
        | .no e => (rdRowX (rdX g) v s (300 - (left : Int)) 0).2.1 = [] ∧ (rdRowX (rdX g) v s (300 - (left : Int)) 0).2.2.2 = e ∧ e ≠ 0 := by
      intro v
      induction v with
      | zero => intro s left hl; simp [rdRow, rdRowX, hl]
      | succ v ih =>
        intro s left hl
        have h1 := rdX_like g s left hl
        simp only [rdRow, rdRowX]
        rw [if_neg (by simp)]
        cases hr : rdNode g s left with
        | no e =>
          rw [hr] at h1
          simp only [Like] at h1
          simp only
          rw [h1.1, h1.2.1]
          cases v with
          | zero => simp [rdRowX, h1.2.2]
          | succ v => simp [rdRowX, h1.2.2]
        | ok n r l =>
          rw [hr] at h1
          simp only [Like] at h1
          rw [h1.1]
          have h2 := ih r l h1.2
          simp only
          cases hr2 : rdRow (rdNode g) v r l with
          | no e => rw [hr2] at h2; simp only at h2 ⊢; exact h2
          | ok l2 r2 left2 => rw [hr2] at h2; simp only at h2 ⊢; rw [h2.1]; exact ⟨rfl, h2.2⟩
    have hargs : ∀ (kind p : Int) (s : List UInt8) (left : Nat), left ≤ 300 → Like (rdArgsX (rdX g) kind p s (300 - (left : Int))) (rdArgs (rdNode g) kind p s left) := by
      intro kind p s left hl
      unfold rdArgs rdArgsX
      cases hn : takeNum s with
      | none => simp [(num_none hn).2, Like]
      | some x =>
        obtain ⟨n, r⟩ := x
        obtain ⟨e1, e2, e3⟩ := num_some hn
        rw [e1, e2, e3]
        simp only
        by_cases h0 : n < 0
        · rw [if_pos h0, if_pos (.inr h0)]; simp [Like]
        · rw [if_neg h0, if_neg (by simp; omega)]
          have h2 := hrow n.toNat r left hl
          cases hr : rdRow (rdNode g) n.toNat r left with
          | no e => rw [hr] at h2; simp only at h2 ⊢; simp only [Like]; exact h2
          | ok l2 r2 left2 => rw [hr] at h2; simp only at h2 ⊢; simp only [Like]; rw [h2.1]; exact ⟨rfl, h2.2⟩
    simp only [rdNode, rdX]
    by_cases hl0 : left = 0
    · subst hl0; simp [Like]
    · rw [if_neg hl0, if_neg (by omega)]
      cases s with
      | nil => simp [Like]
      | cons c s =>
        simp only
        have ek : 300 - (left : Int) + 1 = 300 - ((left - 1 : Nat) : Int) := by omega
        rw [ek]
        unfold rdBodyX rdBody
        split
        · cases hn : takeNum s with
          | none => simp [(num_none hn).1, (num_none hn).2, Like]
          | some x =>
            obtain ⟨n, r⟩ := x
            obtain ⟨e1, e2, e3⟩ := num_some hn
            rw [e1, e2, e3]; simp only [Like]; exact ⟨trivial, by omega⟩
        · split
          · cases hn : takeNum s with
            | none =>
              rw [(num_none hn).1, (num_none hn).2]
              split <;> simp [Like]
            | some x =>
              obtain ⟨n, r⟩ := x
              obtain ⟨e1, e2, e3⟩ := num_some hn
              rw [e1, e2, e3]
              simp only
              split
              · simp [Like]
              · simp only [Like]; exact ⟨trivial, by omega⟩
          · split
            · cases s with
              | nil => simp [Like]
              | cons p s =>
                simp only
                split
                · exact hargs 2 _ s (left - 1) (by omega)
                · simp [Like]
            · split
              · exact hargs 3 0 s (left - 1) (by omega)
              · simp [Like]

theorem rdX_le : ∀ (g : Nat) (s : List UInt8) (k : Int), 0 ≤ k → k ≤ 300 → k + 1 ≤ (rdX g s k).k ∧ (rdX g s k).k ≤ 301 ∧ ((rdX g s k).e = 0 → (rdX g s k).k ≤ 300)
  | 0, s, k, h0, h1 => by simp [rdX]; omega
  | g + 1, s, k, h0, h1 => by
    have hrow : ∀ (v : Nat) (s : List UInt8) (k : Int), 0 ≤ k → k ≤ 300 → k + (rdRowX (rdX g) v s k 0).1.length ≤ (rdRowX (rdX g) v s k 0).2.2.1 ∧ (rdRowX (rdX g) v s k 0).2.2.1 ≤ 301 ∧ ((rdRowX (rdX g) v s k 0).2.2.2 = 0 → (rdRowX (rdX g) v s k 0).2.2.1 ≤ 300) := by
      intro v
      induction v with
      | zero => intro s k h0 h1; simp [rdRowX]; omega
      | succ v ih =>
        intro s k h0 h1
        have h2 := rdX_le g s k h0 h1
        simp only [rdRowX]
        rw [if_neg (by simp)]
        by_cases he : (rdX g s k).e = 0
        · rw [he]
          have h3 := ih (rdX g s k).s (rdX g s k).k (by omega) (h2.2.2 he)
          simp only [List.length_cons]
          refine ⟨by omega, h3.2.1, h3.2.2⟩
        · have e2 : rdRowX (rdX g) v (rdX g s k).s (rdX g s k).k (rdX g s k).e = ([], (rdX g s k).s, (rdX g s k).k, (rdX g s k).e) := by
            cases v with
            | zero => rfl
            | succ v => simp only [rdRowX]; rw [if_pos he]
          rw [e2]
          simp only [List.length_cons, List.length_nil]
          exact ⟨by omega, h2.2.1, fun h => absurd h he⟩
    have hargs : ∀ (kind p : Int) (s : List UInt8) (k : Int), 0 ≤ k → k ≤ 300 → k ≤ (rdArgsX (rdX g) kind p s k).k ∧ (rdArgsX (rdX g) kind p s k).k ≤ 301 ∧ ((rdArgsX (rdX g) kind p s k).e = 0 → (rdArgsX (rdX g) kind p s k).k ≤ 300) := by
      intro kind p s k h0 h1
      unfold rdArgsX
      split
      · simp; omega
      · have := hrow (numVal s).toNat (numRest s) k h0 h1
        simp only
        refine ⟨by omega, this.2⟩
    simp only [rdX]
    split
    · simp; omega
    · rename_i hk
      cases s with
      | nil => simp; omega
      | cons c s =>
        simp only
        unfold rdBodyX
        split
        · simp only; omega
        · split
          · split
            · simp; omega
            · simp only; omega
          · split
            · cases s with
              | nil => simp; omega
              | cons p s =>
                simp only
                split
                · exact hargs 2 _ s (k + 1) (by omega) (by omega)
                · simp; omega
            · split
              · exact hargs 3 0 s (k + 1) (by omega) (by omega)
              · simp; omega
end Go.Abs

-- WIDE
set_option linter.unusedVariables false
set_option linter.unusedSimpArgs false
namespace Go.Proofs
open Go.Abs
attribute [local irreducible] AK AOps QCalls ECalls

theorem bad_zero (s : List UInt8) (k x : Int) : ECalls Try.prog Try.X 109 [.box [.c (.str s), .c (.int .i64 k), .c (.int .i64 0)], .v (.c (.int .i64 x))] [] [(0, [.c (.str []), .c (.int .i64 k), .c (.int .i64 x)])] := by
  refine ECalls.ofL Try.func109 rfl (fun args w => Try.call109 args w) (Nat.le_of_ble_eq_true rfl) [(0, .ptr 1000000 0), (1, .c (.int .i64 x))] [(1000000, [.c (.str s), .c (.int .i64 k), .c (.int .i64 0)])] [] [1000000] rfl rfl fun β => ?_; have hf := Try.func109
  repeat' (first | refine st ?_ | (refine AK.condS rfl (fun h => ?_) (fun h => ?_) <;> first | (cases h; done) | rw [h] | skip) | refine AK.retE Try.hX hf rfl rfl rfl rfl ?_ (by with_reducible rfl) | refine AK.retE Try.hX hf rfl rfl rfl rfl ?_ ?_ | refine AK.endE Try.hX hf rfl rfl rfl rfl ?_ (by with_reducible rfl) | refine AK.endE Try.hX hf rfl rfl rfl rfl ?_ ?_)
  all_goals rfl
theorem bad_set (s : List UInt8) (k e x : Int) (he : e ≠ 0) : ECalls Try.prog Try.X 109 [.box [.c (.str s), .c (.int .i64 k), .c (.int .i64 e)], .v (.c (.int .i64 x))] [] [(0, [.c (.str s), .c (.int .i64 k), .c (.int .i64 e)])] := by
  have e1 : (e == 0) = false := by simpa using he
  refine ECalls.ofL Try.func109 rfl (fun args w => Try.call109 args w) (Nat.le_of_ble_eq_true rfl) [(0, .ptr 1000000 0), (1, .c (.int .i64 x))] [(1000000, [.c (.str s), .c (.int .i64 k), .c (.int .i64 e)])] [] [1000000] rfl rfl fun β => ?_; have hf := Try.func109
  repeat' (first | refine st ?_ | (refine AK.condS rfl (fun h => ?_) (fun h => ?_) <;> first | (cases h; done) | rw [h] | skip) | refine AK.retE Try.hX hf rfl rfl rfl rfl ?_ (by with_reducible rfl) | refine AK.retE Try.hX hf rfl rfl rfl rfl ?_ ?_ | refine AK.endE Try.hX hf rfl rfl rfl rfl ?_ (by with_reducible rfl) | refine AK.endE Try.hX hf rfl rfl rfl rfl ?_ ?_)
  all_goals rfl

theorem byte_cons (c : UInt8) (s : List UInt8) (k e : Int) : ECalls Try.prog Try.X 132 [.box [.c (.str (c :: s)), .c (.int .i64 k), .c (.int .i64 e)]] [.c (.int .i64 c.toNat)] [(0, [.c (.str s), .c (.int .i64 k), .c (.int .i64 e)])] := by
  have hc := c.toNat_lt
  refine ECalls.ofL Try.func132 rfl (fun args w => Try.call132 args w) (Nat.le_of_ble_eq_true rfl) [(0, .ptr 1000000 0)] [(1000000, [.c (.str (c :: s)), .c (.int .i64 k), .c (.int .i64 e)])] [] [1000000] rfl rfl fun β => ?_; have hf := Try.func132
  repeat' (first | refine st ?_ | (refine AK.condS rfl (fun h => ?_) (fun h => ?_) <;> first | (cases h; done) | rw [h] | skip) | refine AK.retE Try.hX hf rfl rfl rfl rfl ?_ (by with_reducible rfl) | refine AK.retE Try.hX hf rfl rfl rfl rfl ?_ ?_ | refine AK.endE Try.hX hf rfl rfl rfl rfl ?_ (by with_reducible rfl) | refine AK.endE Try.hX hf rfl rfl rfl rfl ?_ ?_ | refine AOps.indexStr Try.hX kn rfl rfl rfl rfl rfl rfl (m := 0) rfl rfl ?_ | refine AOps.sliceStr Try.hX kn rfl rfl rfl rfl rfl (l := some 1) (h := none) rfl rfl (by simp) (by simp) ?_ | refine AOps.toStr Try.hX kn rfl rfl rfl rfl rfl rfl rfl rfl rfl rfl rfl (by first | exact rfl | exact byte1 _) rfl ?_)
  · show (_ : List LV) = _
    rw [w64 (by omega) (by omega)]
theorem byte_nil (k : Int) : ECalls Try.prog Try.X 132 [.box [.c (.str []), .c (.int .i64 k), .c (.int .i64 0)]] [.c (.int .i64 0)] [(0, [.c (.str []), .c (.int .i64 k), .c (.int .i64 1)])] := by
  have hb := bad_zero [] k 1
  refine ECalls.ofL Try.func132 rfl (fun args w => Try.call132 args w) (Nat.le_of_ble_eq_true rfl) [(0, .ptr 1000000 0)] [(1000000, [.c (.str []), .c (.int .i64 k), .c (.int .i64 0)])] [] [1000000] rfl rfl fun β => ?_; have hf := Try.func132
  repeat' (first | refine st ?_ | (refine AK.condS rfl (fun h => ?_) (fun h => ?_) <;> first | (cases h; done) | rw [h] | skip) | refine AK.retE Try.hX hf rfl rfl rfl rfl ?_ (by with_reducible rfl) | refine AK.retE Try.hX hf rfl rfl rfl rfl ?_ ?_ | refine AK.endE Try.hX hf rfl rfl rfl rfl ?_ (by with_reducible rfl) | refine AK.endE Try.hX hf rfl rfl rfl rfl ?_ ?_ | refine AOps.calle kn rfl rfl (hb) rfl (by (repeat' (first | exact rfl | exact trivial | refine ⟨_, _, rfl, ?_, ?_⟩ | refine ⟨_, _, _, rfl, rfl, ?_, ?_⟩)); done) rfl rfl rfl rfl rfl rfl rfl rfl rfl rfl rfl rfl rfl rfl ?_ | refine AOps.toStr Try.hX kn rfl rfl rfl rfl rfl rfl rfl rfl rfl rfl rfl (by first | exact rfl | exact byte1 _) rfl ?_)
  all_goals rfl
theorem byte_err (k e : Int) (he : e ≠ 0) : ECalls Try.prog Try.X 132 [.box [.c (.str []), .c (.int .i64 k), .c (.int .i64 e)]] [.c (.int .i64 0)] [(0, [.c (.str []), .c (.int .i64 k), .c (.int .i64 e)])] := by
  have hb := bad_set [] k e 1 he
  refine ECalls.ofL Try.func132 rfl (fun args w => Try.call132 args w) (Nat.le_of_ble_eq_true rfl) [(0, .ptr 1000000 0)] [(1000000, [.c (.str []), .c (.int .i64 k), .c (.int .i64 e)])] [] [1000000] rfl rfl fun β => ?_; have hf := Try.func132
  repeat' (first | refine st ?_ | (refine AK.condS rfl (fun h => ?_) (fun h => ?_) <;> first | (cases h; done) | rw [h] | skip) | refine AK.retE Try.hX hf rfl rfl rfl rfl ?_ (by with_reducible rfl) | refine AK.retE Try.hX hf rfl rfl rfl rfl ?_ ?_ | refine AK.endE Try.hX hf rfl rfl rfl rfl ?_ (by with_reducible rfl) | refine AK.endE Try.hX hf rfl rfl rfl rfl ?_ ?_ | refine AOps.calle kn rfl rfl (hb) rfl (by (repeat' (first | exact rfl | exact trivial | refine ⟨_, _, rfl, ?_, ?_⟩ | refine ⟨_, _, _, rfl, rfl, ?_, ?_⟩)); done) rfl rfl rfl rfl rfl rfl rfl rfl rfl rfl rfl rfl rfl rfl ?_ | refine AOps.toStr Try.hX kn rfl rfl rfl rfl rfl rfl rfl rfl rfl rfl rfl (by first | exact rfl | exact byte1 _) rfl ?_)
  all_goals rfl

theorem num_step {n c sh : Nat} (hn : n < 2 ^ sh) (hc : c < 256) (hs : sh ≤ 55) : IntKind.i64.wrap (((BitVec.ofInt 64 (n : Int)) ||| (BitVec.ofInt 64 (IntKind.i64.wrap (IntKind.i64.wrap (((BitVec.ofInt 64 (c : Int)) &&& (BitVec.ofInt 64 127)).toNat) * 2 ^ (min sh 64))))).toNat) = ((n + c % 128 * 2 ^ sh : Nat) : Int) := by
  rw [and127 (by omega)]
  exact or_shift hn (by omega) hs
theorem takeB_nil (n sh : Nat) : takeB [] n sh = none := rfl
theorem takeB_bad {b : UInt8} {s : List UInt8} {n sh : Nat} (h : b.toNat = 0 ∨ sh > 55) : takeB (b :: s) n sh = none := by simp only [takeB, if_pos h]
theorem takeB_good {b : UInt8} {s : List UInt8} {n sh : Nat} (h : ¬ (b.toNat = 0 ∨ sh > 55)) : takeB (b :: s) n sh = if b.toNat ≥ 128 then takeB s (n + b.toNat % 128 * 2 ^ sh) (sh + 7) else some (n + b.toNat % 128 * 2 ^ sh, s) := by simp only [takeB, if_neg h]
theorem first_none {b : UInt8} {s : List UInt8} (h : takeFirst b s = none) : numVal (b :: s) = 0 ∧ numRest (b :: s) = [] ∧ numErr (b :: s) = 1 := by
  have h2 : takeNum (b :: s) = none := by simp only [takeNum, h]
  exact ⟨by simp only [numVal, h], (num_none h2).1, (num_none h2).2⟩
theorem first_bad {b : UInt8} {s : List UInt8} {n : Nat} {r : List UInt8} (h : takeFirst b s = some (n, r)) (hb : (b.toNat / 64 % 2 = 1 ∧ n = 0) ∨ n > 1152921504606846976) : numVal (b :: s) = (if b.toNat / 64 % 2 = 1 then -(n : Int) else n) ∧ numRest (b :: s) = [] ∧ numErr (b :: s) = 1 := by
  have h2 : takeNum (b :: s) = none := by simp only [takeNum, h, if_pos hb]
  exact ⟨by simp only [numVal, h], (num_none h2).1, (num_none h2).2⟩
theorem first_good {b : UInt8} {s : List UInt8} {n : Nat} {r : List UInt8} (h : takeFirst b s = some (n, r)) (hb : ¬ ((b.toNat / 64 % 2 = 1 ∧ n = 0) ∨ n > 1152921504606846976)) : numVal (b :: s) = (if b.toNat / 64 % 2 = 1 then -(n : Int) else n) ∧ numRest (b :: s) = r ∧ numErr (b :: s) = 0 := by
  have h2 : takeNum (b :: s) = some (if b.toNat / 64 % 2 = 1 then -(n : Int) else n, r) := by simp only [takeNum, h, if_neg hb]
  exact num_some h2
theorem bool_of (p : Prop) [Decidable p] : decide p = true ∧ p ∨ decide p = false ∧ ¬ p := by
  by_cases h : p
  · exact .inl ⟨decide_eq_true h, h⟩
  · exact .inr ⟨decide_eq_false h, h⟩

set_option maxHeartbeats 0 in
theorem number_calls (s : List UInt8) (k : Int) : ECalls Try.prog Try.X 133 [.box [.c (.str s), .c (.int .i64 k), .c (.int .i64 0)]] [.c (.int .i64 (numVal s))] [(0, [.c (.str (numRest s)), .c (.int .i64 k), .c (.int .i64 (numErr s))])] := by
  cases s with
  | nil =>
    have h1 := byte_nil k
    refine ECalls.ofL Try.func133 rfl (fun args w => Try.call133 args w) (Nat.le_of_ble_eq_true rfl) [(0, .ptr 1000000 0)] [(1000000, [.c (.str []), .c (.int .i64 k), .c (.int .i64 0)])] [] [1000000] rfl rfl fun β => ?_; have hf := Try.func133
    repeat' (first | refine st ?_ | (refine AK.condS rfl (fun h => ?_) (fun h => ?_) <;> first | (cases h; done) | rw [h] | skip) | refine AK.retE Try.hX hf rfl rfl rfl rfl ?_ (by with_reducible rfl) | refine AK.retE Try.hX hf rfl rfl rfl rfl ?_ ?_ | refine AK.endE Try.hX hf rfl rfl rfl rfl ?_ (by with_reducible rfl) | refine AK.endE Try.hX hf rfl rfl rfl rfl ?_ ?_ | refine AOps.calle kn rfl rfl (h1) rfl (by (repeat' (first | exact rfl | exact trivial | refine ⟨_, _, rfl, ?_, ?_⟩ | refine ⟨_, _, _, rfl, rfl, ?_, ?_⟩)); done) rfl rfl rfl rfl rfl rfl rfl rfl rfl rfl rfl rfl rfl rfl ?_ | ((first | refine AOps.splitT rfl rfl rfl asm (fun h => ?_) | refine AOps.splitF rfl rfl rfl asm (fun h => ?_) | refine AOps.split rfl rfl rfl (fun h => ?_) (fun h => ?_)) <;> (fail_if_success (cases h; done)) <;> rw [h]))
    refine AK.loopE (α := Unit) (fun _ => True) (fun _ => 0)
      (fun _ => [(3, .c (.int .i64 0)), (4, .c (.bool (decide ((0 : Nat) / 64 % 2 = 1)))), (5, .c (.int .i64 ((0 % 64 : Nat) : Int))), (0, .ptr 1000000 0)])
      (fun _ => [(1000000, [.c (.str []), .c (.int .i64 k), .c (.int .i64 1)])]) (fun _ => []) [1000000] ()
      trivial ⟨.inl rfl, .inl (congrArg (fun z => some (AV.c (CV.bool z))) (and64 (c := 0) (by omega))), .inl (congrArg (fun z => some (AV.c (CV.int .i64 z))) (and63 (a := 0) (by omega))), .inl rfl, trivial⟩ ⟨rfl, trivial⟩ trivial rfl rfl rfl ?_
    rintro _ _ ih
    clear ih
    repeat' (first | refine st ?_ | (refine AK.condS rfl (fun h => ?_) (fun h => ?_) <;> first | (cases h; done) | rw [h] | skip) | refine AK.retE Try.hX hf rfl rfl rfl rfl ?_ (by with_reducible rfl) | refine AK.retE Try.hX hf rfl rfl rfl rfl ?_ ?_ | refine AK.endE Try.hX hf rfl rfl rfl rfl ?_ (by with_reducible rfl) | refine AK.endE Try.hX hf rfl rfl rfl rfl ?_ ?_ | ((first | refine AOps.splitT rfl rfl rfl asm (fun h => ?_) | refine AOps.splitF rfl rfl rfl asm (fun h => ?_) | refine AOps.split rfl rfl rfl (fun h => ?_) (fun h => ?_)) <;> (fail_if_success (cases h; done)) <;> rw [h]))
    all_goals rfl
  | cons b s =>
    have h1 := byte_cons b s k 0
    have hb := b.toNat_lt
    refine ECalls.ofL Try.func133 rfl (fun args w => Try.call133 args w) (Nat.le_of_ble_eq_true rfl) [(0, .ptr 1000000 0)] [(1000000, [.c (.str (b :: s)), .c (.int .i64 k), .c (.int .i64 0)])] [] [1000000] rfl rfl fun β => ?_; have hf := Try.func133
    repeat' (first | refine st ?_ | (refine AK.condS rfl (fun h => ?_) (fun h => ?_) <;> first | (cases h; done) | rw [h] | skip) | refine AK.retE Try.hX hf rfl rfl rfl rfl ?_ (by with_reducible rfl) | refine AK.retE Try.hX hf rfl rfl rfl rfl ?_ ?_ | refine AK.endE Try.hX hf rfl rfl rfl rfl ?_ (by with_reducible rfl) | refine AK.endE Try.hX hf rfl rfl rfl rfl ?_ ?_ | refine AOps.calle kn rfl rfl (h1) rfl (by (repeat' (first | exact rfl | exact trivial | refine ⟨_, _, rfl, ?_, ?_⟩ | refine ⟨_, _, _, rfl, rfl, ?_, ?_⟩)); done) rfl rfl rfl rfl rfl rfl rfl rfl rfl rfl rfl rfl rfl rfl ?_ | ((first | refine AOps.splitT rfl rfl rfl asm (fun h => ?_) | refine AOps.splitF rfl rfl rfl asm (fun h => ?_) | refine AOps.split rfl rfl rfl (fun h => ?_) (fun h => ?_)) <;> (fail_if_success (cases h; done)) <;> rw [h]))
    refine AK.loopE (α := Nat × Nat × Nat × List UInt8) (fun z => z.1 < 256 ∧ z.2.1 < 2 ^ z.2.2.1 ∧ z.2.2.1 % 7 = 6 ∧ z.2.2.1 ≤ 62 ∧ takeFirst b s = if z.1 ≥ 128 then takeB z.2.2.2 z.2.1 z.2.2.1 else some (z.2.1, z.2.2.2)) (fun z => z.2.2.2.length)
      (fun z => [(3, .c (.int .i64 z.1)), (4, .c (.bool (decide (b.toNat / 64 % 2 = 1)))), (5, .c (.int .i64 z.2.1)), (6, .c (.int .u64 z.2.2.1)), (0, .ptr 1000000 0)])
      (fun z => [(1000000, [.c (.str z.2.2.2), .c (.int .i64 k), .c (.int .i64 0)])]) (fun _ => []) [1000000] (b.toNat, b.toNat % 64, 6, s)
      ⟨hb, by show b.toNat % 64 < 2 ^ 6; omega, rfl, by show 6 ≤ 62; omega, rfl⟩ ⟨.inl rfl, .inl (congrArg (fun z => some (AV.c (CV.bool z))) (and64 hb)), .inl (congrArg (fun z => some (AV.c (CV.int .i64 z))) (and63 (by omega))), .inl rfl, .inl rfl, trivial⟩ ⟨rfl, trivial⟩ trivial rfl rfl rfl ?_
    rintro ⟨c, n, sh, r⟩ ⟨hc, hn, h7, hsh, hinv⟩ ih
    simp only at hc hn h7 hsh hinv
    by_cases hcc : c ≥ 128
    · have c1 : decide ((c : Int) ≥ 128) = true := decide_eq_true (by omega)
      rw [if_pos hcc] at hinv
      cases r with
      | nil =>
        rw [takeB_nil] at hinv
        have h2 := byte_nil k
        have h3 := bad_set [] k 1 1 (by omega)
        obtain ⟨f1, f2, f3⟩ := first_none hinv
        rw [f1, f2, f3]
        clear ih
        repeat' (first | refine st ?_ | (refine AK.condS rfl (fun h => ?_) (fun h => ?_) <;> first | (cases h; done) | rw [h] | skip) | refine AK.retE Try.hX hf rfl rfl rfl rfl ?_ (by with_reducible rfl) | refine AK.retE Try.hX hf rfl rfl rfl rfl ?_ ?_ | refine AK.endE Try.hX hf rfl rfl rfl rfl ?_ (by with_reducible rfl) | refine AK.endE Try.hX hf rfl rfl rfl rfl ?_ ?_ | refine AOps.calle kn rfl rfl (h2) rfl (by (repeat' (first | exact rfl | exact trivial | refine ⟨_, _, rfl, ?_, ?_⟩ | refine ⟨_, _, _, rfl, rfl, ?_, ?_⟩)); done) rfl rfl rfl rfl rfl rfl rfl rfl rfl rfl rfl rfl rfl rfl ?_ | refine AOps.calle kn rfl rfl (h3) rfl (by (repeat' (first | exact rfl | exact trivial | refine ⟨_, _, rfl, ?_, ?_⟩ | refine ⟨_, _, _, rfl, rfl, ?_, ?_⟩)); done) rfl rfl rfl rfl rfl rfl rfl rfl rfl rfl rfl rfl rfl rfl ?_ | ((first | refine AOps.splitT rfl rfl rfl asm (fun h => ?_) | refine AOps.splitF rfl rfl rfl asm (fun h => ?_) | refine AOps.split rfl rfl rfl (fun h => ?_) (fun h => ?_)) <;> (fail_if_success (cases h; done)) <;> rw [h]))
        all_goals rfl
      | cons b' r =>
        have h2 := byte_cons b' r k 0
        have hb' := b'.toNat_lt
        by_cases hx : b'.toNat = 0
        · rw [takeB_bad (.inl hx)] at hinv
          have h3 := bad_zero r k 1
          obtain ⟨f1, f2, f3⟩ := first_none hinv
          rw [f1, f2, f3]
          have c2 : (((b'.toNat : Nat) : Int) == 0) = true := by simpa using hx
          clear ih
          repeat' (first | refine st ?_ | (refine AK.condS rfl (fun h => ?_) (fun h => ?_) <;> first | (cases h; done) | rw [h] | skip) | refine AK.retE Try.hX hf rfl rfl rfl rfl ?_ (by with_reducible rfl) | refine AK.retE Try.hX hf rfl rfl rfl rfl ?_ ?_ | refine AK.endE Try.hX hf rfl rfl rfl rfl ?_ (by with_reducible rfl) | refine AK.endE Try.hX hf rfl rfl rfl rfl ?_ ?_ | refine AOps.calle kn rfl rfl (h2) rfl (by (repeat' (first | exact rfl | exact trivial | refine ⟨_, _, rfl, ?_, ?_⟩ | refine ⟨_, _, _, rfl, rfl, ?_, ?_⟩)); done) rfl rfl rfl rfl rfl rfl rfl rfl rfl rfl rfl rfl rfl rfl ?_ | refine AOps.calle kn rfl rfl (h3) rfl (by (repeat' (first | exact rfl | exact trivial | refine ⟨_, _, rfl, ?_, ?_⟩ | refine ⟨_, _, _, rfl, rfl, ?_, ?_⟩)); done) rfl rfl rfl rfl rfl rfl rfl rfl rfl rfl rfl rfl rfl rfl ?_ | ((first | refine AOps.splitT rfl rfl rfl asm (fun h => ?_) | refine AOps.splitF rfl rfl rfl asm (fun h => ?_) | refine AOps.split rfl rfl rfl (fun h => ?_) (fun h => ?_)) <;> (fail_if_success (cases h; done)) <;> rw [h]))
          all_goals rfl
        · have c2 : (((b'.toNat : Nat) : Int) == 0) = false := by simpa using hx
          by_cases hy : sh > 55
          · rw [takeB_bad (.inr hy)] at hinv
            have h3 := bad_zero r k 1
            obtain ⟨f1, f2, f3⟩ := first_none hinv
            rw [f1, f2, f3]
            have c3 : decide ((sh : Int) > 55) = true := decide_eq_true (by omega)
            clear ih
            repeat' (first | refine st ?_ | (refine AK.condS rfl (fun h => ?_) (fun h => ?_) <;> first | (cases h; done) | rw [h] | skip) | refine AK.retE Try.hX hf rfl rfl rfl rfl ?_ (by with_reducible rfl) | refine AK.retE Try.hX hf rfl rfl rfl rfl ?_ ?_ | refine AK.endE Try.hX hf rfl rfl rfl rfl ?_ (by with_reducible rfl) | refine AK.endE Try.hX hf rfl rfl rfl rfl ?_ ?_ | refine AOps.calle kn rfl rfl (h2) rfl (by (repeat' (first | exact rfl | exact trivial | refine ⟨_, _, rfl, ?_, ?_⟩ | refine ⟨_, _, _, rfl, rfl, ?_, ?_⟩)); done) rfl rfl rfl rfl rfl rfl rfl rfl rfl rfl rfl rfl rfl rfl ?_ | refine AOps.calle kn rfl rfl (h3) rfl (by (repeat' (first | exact rfl | exact trivial | refine ⟨_, _, rfl, ?_, ?_⟩ | refine ⟨_, _, _, rfl, rfl, ?_, ?_⟩)); done) rfl rfl rfl rfl rfl rfl rfl rfl rfl rfl rfl rfl rfl rfl ?_ | ((first | refine AOps.splitT rfl rfl rfl asm (fun h => ?_) | refine AOps.splitF rfl rfl rfl asm (fun h => ?_) | refine AOps.split rfl rfl rfl (fun h => ?_) (fun h => ?_)) <;> (fail_if_success (cases h; done)) <;> rw [h]))
            all_goals rfl
          · rw [takeB_good (by omega)] at hinv
            have c3 : decide ((sh : Int) > 55) = false := decide_eq_false (by omega)
            have hs := congrArg (fun z => some (AV.c (CV.int .i64 z))) (num_step hn hb' (by omega))
            have hs2 := congrArg (fun z => some (AV.c (CV.int .u64 z))) (show IntKind.u64.wrap ((sh : Int) + 7) = ((sh + 7 : Nat) : Int) by simp [IntKind.wrap, IntKind.bits, IntKind.signed]; omega)
            repeat' (first | refine st ?_ | (refine AK.condS rfl (fun h => ?_) (fun h => ?_) <;> first | (cases h; done) | rw [h] | skip) | refine AK.retE Try.hX hf rfl rfl rfl rfl ?_ (by with_reducible rfl) | refine AK.retE Try.hX hf rfl rfl rfl rfl ?_ ?_ | refine AK.endE Try.hX hf rfl rfl rfl rfl ?_ (by with_reducible rfl) | refine AK.endE Try.hX hf rfl rfl rfl rfl ?_ ?_ | refine AOps.calle kn rfl rfl (h2) rfl (by (repeat' (first | exact rfl | exact trivial | refine ⟨_, _, rfl, ?_, ?_⟩ | refine ⟨_, _, _, rfl, rfl, ?_, ?_⟩)); done) rfl rfl rfl rfl rfl rfl rfl rfl rfl rfl rfl rfl rfl rfl ?_ | ((first | refine AOps.splitT rfl rfl rfl asm (fun h => ?_) | refine AOps.splitF rfl rfl rfl asm (fun h => ?_) | refine AOps.split rfl rfl rfl (fun h => ?_) (fun h => ?_)) <;> (fail_if_success (cases h; done)) <;> rw [h]))
            refine AK.again (ih (b'.toNat, n + b'.toNat % 128 * 2 ^ sh, sh + 7, r) ⟨hb', ?_, by show (sh + 7) % 7 = 6; omega, by show sh + 7 ≤ 62; omega, hinv⟩ (by show r.length < (b' :: r).length; simp)) ⟨.inl rfl, .inl rfl, .inl hs, .inl hs2, .inl rfl, trivial⟩ ⟨rfl, trivial⟩ trivial rfl rfl rfl
            show n + b'.toNat % 128 * 2 ^ sh < 2 ^ (sh + 7)
            have h5 : 2 ^ (sh + 7) = 128 * 2 ^ sh := by rw [Nat.pow_add]; omega
            have h6 : b'.toNat % 128 * 2 ^ sh ≤ 127 * 2 ^ sh := Nat.mul_le_mul_right _ (by omega)
            omega
    · have c1 : decide ((c : Int) ≥ 128) = false := decide_eq_false (by omega)
      rw [if_neg hcc] at hinv
      have hnb : n < 9223372036854775808 := by
        have : (2 : Nat) ^ sh ≤ 2 ^ 62 := Nat.pow_le_pow_right (by omega) hsh
        omega
      have e5 : IntKind.i64.wrap (0 - (n : Int)) = -(n : Int) := by rw [w64 (by omega) (by omega)]; omega
      clear ih
      rcases bool_of (b.toNat / 64 % 2 = 1) with ⟨d1, hB⟩ | ⟨d1, hB⟩
      · by_cases hz : n = 0
        · obtain ⟨f1, f2, f3⟩ := first_bad hinv (.inl ⟨hB, hz⟩)
          rw [f1, f2, f3, if_pos hB]
          subst hz
          have h3 := bad_zero r k 1
          repeat' (first | refine st ?_ | (refine AK.condS rfl (fun h => ?_) (fun h => ?_) <;> first | (cases h; done) | rw [h] | skip) | refine AK.retE Try.hX hf rfl rfl rfl rfl ?_ (by with_reducible rfl) | refine AK.retE Try.hX hf rfl rfl rfl rfl ?_ ?_ | refine AK.endE Try.hX hf rfl rfl rfl rfl ?_ (by with_reducible rfl) | refine AK.endE Try.hX hf rfl rfl rfl rfl ?_ ?_ | refine AOps.calle kn rfl rfl (h3) rfl (by (repeat' (first | exact rfl | exact trivial | refine ⟨_, _, rfl, ?_, ?_⟩ | refine ⟨_, _, _, rfl, rfl, ?_, ?_⟩)); done) rfl rfl rfl rfl rfl rfl rfl rfl rfl rfl rfl rfl rfl rfl ?_ | ((first | refine AOps.splitT rfl rfl rfl asm (fun h => ?_) | refine AOps.splitF rfl rfl rfl asm (fun h => ?_) | refine AOps.split rfl rfl rfl (fun h => ?_) (fun h => ?_)) <;> (fail_if_success (cases h; done)) <;> rw [h]))
          all_goals rfl
        · have c2 : ((n : Int) == 0) = false := by simpa using hz
          by_cases hbig : n > 1152921504606846976
          · obtain ⟨f1, f2, f3⟩ := first_bad hinv (.inr hbig)
            rw [f1, f2, f3, if_pos hB]
            have c3 : decide ((n : Int) > 1152921504606846976) = true := decide_eq_true (by omega)
            have h3 := bad_zero r k 1
            repeat' (first | refine st ?_ | (refine AK.condS rfl (fun h => ?_) (fun h => ?_) <;> first | (cases h; done) | rw [h] | skip) | refine AK.retE Try.hX hf rfl rfl rfl rfl ?_ (by with_reducible rfl) | refine AK.retE Try.hX hf rfl rfl rfl rfl ?_ ?_ | refine AK.endE Try.hX hf rfl rfl rfl rfl ?_ (by with_reducible rfl) | refine AK.endE Try.hX hf rfl rfl rfl rfl ?_ ?_ | refine AOps.calle kn rfl rfl (h3) rfl (by (repeat' (first | exact rfl | exact trivial | refine ⟨_, _, rfl, ?_, ?_⟩ | refine ⟨_, _, _, rfl, rfl, ?_, ?_⟩)); done) rfl rfl rfl rfl rfl rfl rfl rfl rfl rfl rfl rfl rfl rfl ?_ | ((first | refine AOps.splitT rfl rfl rfl asm (fun h => ?_) | refine AOps.splitF rfl rfl rfl asm (fun h => ?_) | refine AOps.split rfl rfl rfl (fun h => ?_) (fun h => ?_)) <;> (fail_if_success (cases h; done)) <;> rw [h]))
            all_goals first | rfl | (show (_ : List LV) = _; exact congrArg (fun z => [LV.c (CV.int .i64 z)]) e5)
          · obtain ⟨f1, f2, f3⟩ := first_good hinv (by omega)
            rw [f1, f2, f3, if_pos hB]
            have c3 : decide ((n : Int) > 1152921504606846976) = false := decide_eq_false (by omega)
            repeat' (first | refine st ?_ | (refine AK.condS rfl (fun h => ?_) (fun h => ?_) <;> first | (cases h; done) | rw [h] | skip) | refine AK.retE Try.hX hf rfl rfl rfl rfl ?_ (by with_reducible rfl) | refine AK.retE Try.hX hf rfl rfl rfl rfl ?_ ?_ | refine AK.endE Try.hX hf rfl rfl rfl rfl ?_ (by with_reducible rfl) | refine AK.endE Try.hX hf rfl rfl rfl rfl ?_ ?_ | ((first | refine AOps.splitT rfl rfl rfl asm (fun h => ?_) | refine AOps.splitF rfl rfl rfl asm (fun h => ?_) | refine AOps.split rfl rfl rfl (fun h => ?_) (fun h => ?_)) <;> (fail_if_success (cases h; done)) <;> rw [h]))
            all_goals first | rfl | (show (_ : List LV) = _; exact congrArg (fun z => [LV.c (CV.int .i64 z)]) e5)
      · by_cases hbig : n > 1152921504606846976
        · obtain ⟨f1, f2, f3⟩ := first_bad hinv (.inr hbig)
          rw [f1, f2, f3, if_neg hB]
          have c3 : decide ((n : Int) > 1152921504606846976) = true := decide_eq_true (by omega)
          have h3 := bad_zero r k 1
          repeat' (first | refine st ?_ | (refine AK.condS rfl (fun h => ?_) (fun h => ?_) <;> first | (cases h; done) | rw [h] | skip) | refine AK.retE Try.hX hf rfl rfl rfl rfl ?_ (by with_reducible rfl) | refine AK.retE Try.hX hf rfl rfl rfl rfl ?_ ?_ | refine AK.endE Try.hX hf rfl rfl rfl rfl ?_ (by with_reducible rfl) | refine AK.endE Try.hX hf rfl rfl rfl rfl ?_ ?_ | refine AOps.calle kn rfl rfl (h3) rfl (by (repeat' (first | exact rfl | exact trivial | refine ⟨_, _, rfl, ?_, ?_⟩ | refine ⟨_, _, _, rfl, rfl, ?_, ?_⟩)); done) rfl rfl rfl rfl rfl rfl rfl rfl rfl rfl rfl rfl rfl rfl ?_ | ((first | refine AOps.splitT rfl rfl rfl asm (fun h => ?_) | refine AOps.splitF rfl rfl rfl asm (fun h => ?_) | refine AOps.split rfl rfl rfl (fun h => ?_) (fun h => ?_)) <;> (fail_if_success (cases h; done)) <;> rw [h]))
          all_goals rfl
        · obtain ⟨f1, f2, f3⟩ := first_good hinv (by omega)
          rw [f1, f2, f3, if_neg hB]
          have c3 : decide ((n : Int) > 1152921504606846976) = false := decide_eq_false (by omega)
          repeat' (first | refine st ?_ | (refine AK.condS rfl (fun h => ?_) (fun h => ?_) <;> first | (cases h; done) | rw [h] | skip) | refine AK.retE Try.hX hf rfl rfl rfl rfl ?_ (by with_reducible rfl) | refine AK.retE Try.hX hf rfl rfl rfl rfl ?_ ?_ | refine AK.endE Try.hX hf rfl rfl rfl rfl ?_ (by with_reducible rfl) | refine AK.endE Try.hX hf rfl rfl rfl rfl ?_ ?_ | ((first | refine AOps.splitT rfl rfl rfl asm (fun h => ?_) | refine AOps.splitF rfl rfl rfl asm (fun h => ?_) | refine AOps.split rfl rfl rfl (fun h => ?_) (fun h => ?_)) <;> (fail_if_success (cases h; done)) <;> rw [h]))
          all_goals rfl
end Go.Proofs
