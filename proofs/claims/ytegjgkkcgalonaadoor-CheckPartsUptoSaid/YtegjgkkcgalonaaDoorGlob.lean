/- What parse of package value answers. What put and add of package tree answer. Leaving a call with boxes at the end of its text. Package tree's reader as plain functions, step for step, and that it answers as trees are read. What Node, Told, Pack, Parse and Unpack of package value answer. What instruction, step, row and Code of package check answer. What row and Code of package check answer. What the small functions of package touchstonekeep answer, and the three laws about check. The law CheckParts. What the arguments of the laws read as: closed values of the chain's data. What an argument that is a list of types reads as. The last text of a law whose code names a package variable of which nothing is known but its shape. -/
import Derived.Test.YtegjgkkcgalonaaDoorVal8
import Derived.Test.YtegjgkkcgalonaaDoorKind9
import Derived.Test.YtegjgkkcgalonaaDoorLibD
import Derived.Test.YtegjgkkcgalonaaDoorChkQ
import Derived.Test.YtegjgkkcgalonaaDoorChk6
import Derived.Test.YtegjgkkcgalonaaDoorNum1
import Derived.Test.YtegjgkkcgalonaaDoorRows
import Derived.Test.YtegjgkkcgalonaaDoorCtx
import Derived.WalkKit
import Derived.ProofKit
import Derived.OpenShut
import Derived.Test.YtegjgkkcgalonaaDoorHead
import Derived.JoinedCond
set_option linter.unusedVariables false
set_option linter.unusedSimpArgs false
set_option maxRecDepth 100000
namespace Go.Proofs
open Go.Abs
theorem len_eq (l : List Nd) (b : Prop) [Decidable b] (h : b ↔ l.length = 0) : ((((encNds l).length : Nat) : Int) == 0) = decide b := by
  rw [encNds_length, Bool.eq_iff_iff]; simp [h]
theorem int_eq (a b : Int) : (a == b) = decide (a = b) := by rw [Bool.eq_iff_iff]; simp
attribute [local irreducible] AK AOps QCalls ECalls vPar vRow vParAll vParMap

set_option maxHeartbeats 0 in
theorem vparse_calls : ∀ (n : Nd) (t : Ty), tBad t = false → ndSize n ≤ 8589934593 → tySize t ≤ 8589934593 → QCalls Tryd.prog Tryd.X 47 [encTy t, encNd n] (.tup [encVl (vPar n t).1, .bool (vPar n t).2])
  | .mk kind N P S args, .mk T ts, hb, hn, ht => by
    simp only [ndSize] at hn
    simp only [tySize] at ht
    have hl1 := ndsSize_len args
    have hin : ∀ x ∈ args, ∀ u, tBad u = false → tySize u ≤ 8589934593 → QCalls Tryd.prog Tryd.X 47 [encTy u, encNd x] (.tup [encVl (vPar x u).1, .bool (vPar x u).2]) := fun x hx u h1 h2 => vparse_calls x u h1 (by have := ndsSize_mem hx; omega) h2
    have hin2 : ∀ k n p s xa, Nd.mk k n p s xa ∈ args → ∀ y ∈ xa, ∀ u, tBad u = false → tySize u ≤ 8589934593 → QCalls Tryd.prog Tryd.X 47 [encTy u, encNd y] (.tup [encVl (vPar y u).1, .bool (vPar y u).2]) := fun k n p s xa hx y hy u h1 h2 => vparse_calls y u h1 (by have h3 := ndsSize_mem hx; have h4 := ndsSize_mem hy; simp only [ndSize] at h3; omega) h2
    obtain ⟨har, hbs⟩ := tBad_args hb
    simp only [tyT, tyArgs] at har hbs
    have hrow : QCalls Tryd.prog Tryd.X 61 [.sl 2 (encTys ts), .sl 5 (encNds args)] (.tup [.sl 7 (encVls (vRow args ts).1), .bool (vRow args ts).2]) :=
      row_calls ts args (by omega) fun x hx u hu => hin x hx u (tBads_mem hbs hu) (by have := tysSize_mem hu; omega)
    by_cases c : T = 1
    · subst c
      rw [vPar1]
      by_cases hi : kind = 2 ∧ P = 20
      · obtain ⟨rfl, rfl⟩ := hi
        have h1 := is_calls 2 N 20 20 S args
        rw [show decide ((2 : Int) = 2 ∧ (20 : Int) = 20) = true from rfl] at h1
        have e := len_eq args ((2 : Int) = 2 ∧ (20 : Int) = 20 ∧ args.length = 0) (by simp)
        refine QCalls.of Tryd.func47 rfl (fun args w => Tryd.call47 args w) (Nat.le_of_ble_eq_true rfl) [(0, .c (encTy (.mk 1 ts))), (1, .c (encNd (.mk 2 N 20 S args)))] rfl fun β hβ => ?_; have hf := Tryd.func47
        refine AK.seq ?_
        refine AK.region Tryd.mixed rfl ?_
        repeat' (first | refine so ?_ | (refine uA rfl ?_ ?_ <;> (try (show (_ : Nat) * _ ≤ _; dsimp only))) | ((first | refine AOps.splitT rfl rfl rfl asm (fun h => ?_) | refine AOps.splitF rfl rfl rfl asm (fun h => ?_) | refine AOps.split rfl rfl rfl (fun h => ?_) (fun h => ?_)) <;> (fail_if_success (cases h; done)) <;> rw [h]))
        refine AK.freeze 3 rfl rfl rfl rfl ?_
        repeat' (first | refine st ?_ | (refine AK.condS rfl (fun h => ?_) (fun h => ?_) <;> first | (cases h; done) | rw [h] | skip) | refine uQ hf rfl rfl ?_ | refine uC rfl h1 ?_ | (refine uA rfl ?_ ?_ <;> (try (show (_ : Nat) * _ ≤ _; dsimp only))) | ((first | refine AOps.splitT rfl rfl rfl asm (fun h => ?_) | refine AOps.splitF rfl rfl rfl asm (fun h => ?_) | refine AOps.split rfl rfl rfl (fun h => ?_) (fun h => ?_)) <;> (fail_if_success (cases h; done)) <;> rw [h]))
        all_goals exact congrArg (fun b => CV.tup [encVl (val0 1), CV.bool b]) e
      · have h1 := is_calls kind N P 20 S args
        rw [show decide (kind = 2 ∧ P = 20) = false from decide_eq_false hi] at h1
        rw [show decide (kind = 2 ∧ P = 20 ∧ args.length = 0) = false from decide_eq_false (fun h => hi ⟨h.1, h.2.1⟩)]
        refine QCalls.of Tryd.func47 rfl (fun args w => Tryd.call47 args w) (Nat.le_of_ble_eq_true rfl) [(0, .c (encTy (.mk 1 ts))), (1, .c (encNd (.mk kind N P S args)))] rfl fun β hβ => ?_; have hf := Tryd.func47
        refine AK.seq ?_
        refine AK.region Tryd.mixed rfl ?_
        repeat' (first | refine so ?_ | (refine uA rfl ?_ ?_ <;> (try (show (_ : Nat) * _ ≤ _; dsimp only))) | ((first | refine AOps.splitT rfl rfl rfl asm (fun h => ?_) | refine AOps.splitF rfl rfl rfl asm (fun h => ?_) | refine AOps.split rfl rfl rfl (fun h => ?_) (fun h => ?_)) <;> (fail_if_success (cases h; done)) <;> rw [h]))
        refine AK.freeze 3 rfl rfl rfl rfl ?_
        exact dq
    by_cases c : T = 2
    · subst c
      rw [vPar2]
      by_cases hi : kind = 2 ∧ P = 21
      · obtain ⟨rfl, rfl⟩ := hi
        have h1 := is_calls 2 N 21 21 S args
        have h2 := is_calls 2 N 21 22 S args
        rw [show decide ((2 : Int) = 2 ∧ (21 : Int) = 21) = true from rfl] at h1
        rw [show decide ((2 : Int) = 2 ∧ (21 : Int) = 22) = false from rfl] at h2
        have e := len_eq args ((2 : Int) = 2 ∧ ((21 : Int) = 21 ∨ (21 : Int) = 22) ∧ args.length = 0) (by simp)
        refine QCalls.of Tryd.func47 rfl (fun args w => Tryd.call47 args w) (Nat.le_of_ble_eq_true rfl) [(0, .c (encTy (.mk 2 ts))), (1, .c (encNd (.mk 2 N 21 S args)))] rfl fun β hβ => ?_; have hf := Tryd.func47
        refine AK.seq ?_
        refine AK.region Tryd.mixed rfl ?_
        repeat' (first | refine so ?_ | (refine uA rfl ?_ ?_ <;> (try (show (_ : Nat) * _ ≤ _; dsimp only))) | ((first | refine AOps.splitT rfl rfl rfl asm (fun h => ?_) | refine AOps.splitF rfl rfl rfl asm (fun h => ?_) | refine AOps.split rfl rfl rfl (fun h => ?_) (fun h => ?_)) <;> (fail_if_success (cases h; done)) <;> rw [h]))
        refine AK.freeze 3 rfl rfl rfl rfl ?_
        repeat' (first | refine st ?_ | (refine AK.condS rfl (fun h => ?_) (fun h => ?_) <;> first | (cases h; done) | rw [h] | skip) | refine uQ hf rfl rfl ?_ | refine uC rfl h1 ?_ | refine uC rfl h2 ?_ | (refine uA rfl ?_ ?_ <;> (try (show (_ : Nat) * _ ≤ _; dsimp only))) | ((first | refine AOps.splitT rfl rfl rfl asm (fun h => ?_) | refine AOps.splitF rfl rfl rfl asm (fun h => ?_) | refine AOps.split rfl rfl rfl (fun h => ?_) (fun h => ?_)) <;> (fail_if_success (cases h; done)) <;> rw [h]))
        all_goals exact congrArg (fun b => CV.tup [encVl (.mk 2 (IntKind.i64.wrap (22 - 21)) 0 [] [] [] []), CV.bool b]) e
      by_cases hj : kind = 2 ∧ P = 22
      · obtain ⟨rfl, rfl⟩ := hj
        have h1 := is_calls 2 N 22 21 S args
        have h2 := is_calls 2 N 22 22 S args
        rw [show decide ((2 : Int) = 2 ∧ (22 : Int) = 21) = false from rfl] at h1
        rw [show decide ((2 : Int) = 2 ∧ (22 : Int) = 22) = true from rfl] at h2
        have e := len_eq args ((2 : Int) = 2 ∧ ((22 : Int) = 21 ∨ (22 : Int) = 22) ∧ args.length = 0) (by simp)
        refine QCalls.of Tryd.func47 rfl (fun args w => Tryd.call47 args w) (Nat.le_of_ble_eq_true rfl) [(0, .c (encTy (.mk 2 ts))), (1, .c (encNd (.mk 2 N 22 S args)))] rfl fun β hβ => ?_; have hf := Tryd.func47
        refine AK.seq ?_
        refine AK.region Tryd.mixed rfl ?_
        repeat' (first | refine so ?_ | (refine uA rfl ?_ ?_ <;> (try (show (_ : Nat) * _ ≤ _; dsimp only))) | ((first | refine AOps.splitT rfl rfl rfl asm (fun h => ?_) | refine AOps.splitF rfl rfl rfl asm (fun h => ?_) | refine AOps.split rfl rfl rfl (fun h => ?_) (fun h => ?_)) <;> (fail_if_success (cases h; done)) <;> rw [h]))
        refine AK.freeze 3 rfl rfl rfl rfl ?_
        repeat' (first | refine st ?_ | (refine AK.condS rfl (fun h => ?_) (fun h => ?_) <;> first | (cases h; done) | rw [h] | skip) | refine uQ hf rfl rfl ?_ | refine uC rfl h1 ?_ | refine uC rfl h2 ?_ | (refine uA rfl ?_ ?_ <;> (try (show (_ : Nat) * _ ≤ _; dsimp only))) | ((first | refine AOps.splitT rfl rfl rfl asm (fun h => ?_) | refine AOps.splitF rfl rfl rfl asm (fun h => ?_) | refine AOps.split rfl rfl rfl (fun h => ?_) (fun h => ?_)) <;> (fail_if_success (cases h; done)) <;> rw [h]))
        all_goals exact congrArg (fun b => CV.tup [encVl (.mk 2 (IntKind.i64.wrap (22 - 22)) 0 [] [] [] []), CV.bool b]) e
      have h1 := is_calls kind N P 21 S args
      have h2 := is_calls kind N P 22 S args
      rw [decide_eq_false hi] at h1
      rw [decide_eq_false hj] at h2
      rw [show decide (kind = 2 ∧ (P = 21 ∨ P = 22) ∧ args.length = 0) = false from decide_eq_false (fun h => h.2.1.elim (fun g => hi ⟨h.1, g⟩) (fun g => hj ⟨h.1, g⟩))]
      refine QCalls.of Tryd.func47 rfl (fun args w => Tryd.call47 args w) (Nat.le_of_ble_eq_true rfl) [(0, .c (encTy (.mk 2 ts))), (1, .c (encNd (.mk kind N P S args)))] rfl fun β hβ => ?_; have hf := Tryd.func47
      refine AK.seq ?_
      refine AK.region Tryd.mixed rfl ?_
      repeat' (first | refine so ?_ | (refine uA rfl ?_ ?_ <;> (try (show (_ : Nat) * _ ≤ _; dsimp only))) | ((first | refine AOps.splitT rfl rfl rfl asm (fun h => ?_) | refine AOps.splitF rfl rfl rfl asm (fun h => ?_) | refine AOps.split rfl rfl rfl (fun h => ?_) (fun h => ?_)) <;> (fail_if_success (cases h; done)) <;> rw [h]))
      refine AK.freeze 3 rfl rfl rfl rfl ?_
      exact dq
    by_cases c : T = 3
    · subst c
      rw [vPar3 3 kind N P (by decide), ← int_eq]
      refine QCalls.of Tryd.func47 rfl (fun args w => Tryd.call47 args w) (Nat.le_of_ble_eq_true rfl) [(0, .c (encTy (.mk 3 ts))), (1, .c (encNd (.mk kind N P S args)))] rfl fun β hβ => ?_; have hf := Tryd.func47
      refine AK.seq ?_
      refine AK.region Tryd.mixed rfl ?_
      repeat' (first | refine so ?_ | (refine uA rfl ?_ ?_ <;> (try (show (_ : Nat) * _ ≤ _; dsimp only))) | ((first | refine AOps.splitT rfl rfl rfl asm (fun h => ?_) | refine AOps.splitF rfl rfl rfl asm (fun h => ?_) | refine AOps.split rfl rfl rfl (fun h => ?_) (fun h => ?_)) <;> (fail_if_success (cases h; done)) <;> rw [h]))
      refine AK.freeze 3 rfl rfl rfl rfl ?_
      exact dq
    by_cases c : T = 4
    · subst c
      rw [vPar3 4 kind N P (by decide), ← int_eq]
      refine QCalls.of Tryd.func47 rfl (fun args w => Tryd.call47 args w) (Nat.le_of_ble_eq_true rfl) [(0, .c (encTy (.mk 4 ts))), (1, .c (encNd (.mk kind N P S args)))] rfl fun β hβ => ?_; have hf := Tryd.func47
      refine AK.seq ?_
      refine AK.region Tryd.mixed rfl ?_
      repeat' (first | refine so ?_ | (refine uA rfl ?_ ?_ <;> (try (show (_ : Nat) * _ ≤ _; dsimp only))) | ((first | refine AOps.splitT rfl rfl rfl asm (fun h => ?_) | refine AOps.splitF rfl rfl rfl asm (fun h => ?_) | refine AOps.split rfl rfl rfl (fun h => ?_) (fun h => ?_)) <;> (fail_if_success (cases h; done)) <;> rw [h]))
      refine AK.freeze 3 rfl rfl rfl rfl ?_
      exact dq
    by_cases c : T = 5
    · subst c
      rw [vPar3 5 kind N P (by decide), ← int_eq]
      refine QCalls.of Tryd.func47 rfl (fun args w => Tryd.call47 args w) (Nat.le_of_ble_eq_true rfl) [(0, .c (encTy (.mk 5 ts))), (1, .c (encNd (.mk kind N P S args)))] rfl fun β hβ => ?_; have hf := Tryd.func47
      refine AK.seq ?_
      refine AK.region Tryd.mixed rfl ?_
      repeat' (first | refine so ?_ | (refine uA rfl ?_ ?_ <;> (try (show (_ : Nat) * _ ≤ _; dsimp only))) | ((first | refine AOps.splitT rfl rfl rfl asm (fun h => ?_) | refine AOps.splitF rfl rfl rfl asm (fun h => ?_) | refine AOps.split rfl rfl rfl (fun h => ?_) (fun h => ?_)) <;> (fail_if_success (cases h; done)) <;> rw [h]))
      refine AK.freeze 3 rfl rfl rfl rfl ?_
      exact dq
    by_cases c : T = 7
    · subst c
      rw [vPar3 7 kind N P (by decide), ← int_eq]
      refine QCalls.of Tryd.func47 rfl (fun args w => Tryd.call47 args w) (Nat.le_of_ble_eq_true rfl) [(0, .c (encTy (.mk 7 ts))), (1, .c (encNd (.mk kind N P S args)))] rfl fun β hβ => ?_; have hf := Tryd.func47
      refine AK.seq ?_
      refine AK.region Tryd.mixed rfl ?_
      repeat' (first | refine so ?_ | (refine uA rfl ?_ ?_ <;> (try (show (_ : Nat) * _ ≤ _; dsimp only))) | ((first | refine AOps.splitT rfl rfl rfl asm (fun h => ?_) | refine AOps.splitF rfl rfl rfl asm (fun h => ?_) | refine AOps.split rfl rfl rfl (fun h => ?_) (fun h => ?_)) <;> (fail_if_success (cases h; done)) <;> rw [h]))
      refine AK.freeze 3 rfl rfl rfl rfl ?_
      exact dq
    by_cases c : T = 6
    · subst c
      rw [vPar6, ← int_eq]
      refine QCalls.of Tryd.func47 rfl (fun args w => Tryd.call47 args w) (Nat.le_of_ble_eq_true rfl) [(0, .c (encTy (.mk 6 ts))), (1, .c (encNd (.mk kind N P S args)))] rfl fun β hβ => ?_; have hf := Tryd.func47
      refine AK.seq ?_
      refine AK.region Tryd.mixed rfl ?_
      repeat' (first | refine so ?_ | (refine uA rfl ?_ ?_ <;> (try (show (_ : Nat) * _ ≤ _; dsimp only))) | ((first | refine AOps.splitT rfl rfl rfl asm (fun h => ?_) | refine AOps.splitF rfl rfl rfl asm (fun h => ?_) | refine AOps.split rfl rfl rfl (fun h => ?_) (fun h => ?_)) <;> (fail_if_success (cases h; done)) <;> rw [h]))
      refine AK.freeze 3 rfl rfl rfl rfl ?_
      exact dq
    by_cases c : T = 9
    · subst c
      by_cases hi : kind = 2 ∧ P = 27
      · obtain ⟨rfl, rfl⟩ := hi
        rw [vPar9a]
        have h1 := is_calls 2 N 27 27 S args
        rw [show decide ((2 : Int) = 2 ∧ (27 : Int) = 27) = true from rfl] at h1
        have e := len_eq args (args.length = 0) Iff.rfl
        refine QCalls.of Tryd.func47 rfl (fun args w => Tryd.call47 args w) (Nat.le_of_ble_eq_true rfl) [(0, .c (encTy (.mk 9 ts))), (1, .c (encNd (.mk 2 N 27 S args)))] rfl fun β hβ => ?_; have hf := Tryd.func47
        refine AK.seq ?_
        refine AK.region Tryd.mixed rfl ?_
        repeat' (first | refine so ?_ | (refine uA rfl ?_ ?_ <;> (try (show (_ : Nat) * _ ≤ _; dsimp only))) | ((first | refine AOps.splitT rfl rfl rfl asm (fun h => ?_) | refine AOps.splitF rfl rfl rfl asm (fun h => ?_) | refine AOps.split rfl rfl rfl (fun h => ?_) (fun h => ?_)) <;> (fail_if_success (cases h; done)) <;> rw [h]))
        refine AK.freeze 3 rfl rfl rfl rfl ?_
        repeat' (first | refine st ?_ | (refine AK.condS rfl (fun h => ?_) (fun h => ?_) <;> first | (cases h; done) | rw [h] | skip) | refine uQ hf rfl rfl ?_ | refine uC rfl h1 ?_ | (refine uA rfl ?_ ?_ <;> (try (show (_ : Nat) * _ ≤ _; dsimp only))) | ((first | refine AOps.splitT rfl rfl rfl asm (fun h => ?_) | refine AOps.splitF rfl rfl rfl asm (fun h => ?_) | refine AOps.split rfl rfl rfl (fun h => ?_) (fun h => ?_)) <;> (fail_if_success (cases h; done)) <;> rw [h]))
        all_goals exact congrArg (fun b => CV.tup [encVl (val0 9), CV.bool b]) e
      by_cases hj : kind = 2 ∧ P = 26
      · obtain ⟨rfl, rfl⟩ := hj
        rw [vPar9b]
        have h1 := is_calls 2 N 26 27 S args
        rw [show decide ((2 : Int) = 2 ∧ (26 : Int) = 27) = false from rfl] at h1
        have h2 := is_calls 2 N 26 26 S args
        rw [show decide ((2 : Int) = 2 ∧ (26 : Int) = 26) = true from rfl] at h2
        generalize vRow args ts = z at hrow
        refine QCalls.of Tryd.func47 rfl (fun args w => Tryd.call47 args w) (Nat.le_of_ble_eq_true rfl) [(0, .c (encTy (.mk 9 ts))), (1, .c (encNd (.mk 2 N 26 S args)))] rfl fun β hβ => ?_; have hf := Tryd.func47
        refine AK.seq ?_
        refine AK.region Tryd.mixed rfl ?_
        repeat' (first | refine so ?_ | (refine uA rfl ?_ ?_ <;> (try (show (_ : Nat) * _ ≤ _; dsimp only))) | ((first | refine AOps.splitT rfl rfl rfl asm (fun h => ?_) | refine AOps.splitF rfl rfl rfl asm (fun h => ?_) | refine AOps.split rfl rfl rfl (fun h => ?_) (fun h => ?_)) <;> (fail_if_success (cases h; done)) <;> rw [h]))
        refine AK.freeze 3 rfl rfl rfl rfl ?_
        exact dq
      rw [vPar9c _ _ _ _ _ _ hi hj]
      have h1 := is_calls kind N P 27 S args
      have h2 := is_calls kind N P 26 S args
      rw [decide_eq_false hi] at h1
      rw [decide_eq_false hj] at h2
      refine QCalls.of Tryd.func47 rfl (fun args w => Tryd.call47 args w) (Nat.le_of_ble_eq_true rfl) [(0, .c (encTy (.mk 9 ts))), (1, .c (encNd (.mk kind N P S args)))] rfl fun β hβ => ?_; have hf := Tryd.func47
      refine AK.seq ?_
      refine AK.region Tryd.mixed rfl ?_
      repeat' (first | refine so ?_ | (refine uA rfl ?_ ?_ <;> (try (show (_ : Nat) * _ ≤ _; dsimp only))) | ((first | refine AOps.splitT rfl rfl rfl asm (fun h => ?_) | refine AOps.splitF rfl rfl rfl asm (fun h => ?_) | refine AOps.split rfl rfl rfl (fun h => ?_) (fun h => ?_)) <;> (fail_if_success (cases h; done)) <;> rw [h]))
      refine AK.freeze 3 rfl rfl rfl rfl ?_
      exact dq
    by_cases c : T = 11
    · subst c
      by_cases hi : kind = 2 ∧ P = 23
      · obtain ⟨rfl, rfl⟩ := hi
        rw [vPar11a]
        have h1 := is_calls 2 N 23 23 S args
        rw [show decide ((2 : Int) = 2 ∧ (23 : Int) = 23) = true from rfl] at h1
        generalize vRow args ts = z at hrow
        refine QCalls.of Tryd.func47 rfl (fun args w => Tryd.call47 args w) (Nat.le_of_ble_eq_true rfl) [(0, .c (encTy (.mk 11 ts))), (1, .c (encNd (.mk 2 N 23 S args)))] rfl fun β hβ => ?_; have hf := Tryd.func47
        refine AK.seq ?_
        refine AK.region Tryd.mixed rfl ?_
        repeat' (first | refine so ?_ | (refine uA rfl ?_ ?_ <;> (try (show (_ : Nat) * _ ≤ _; dsimp only))) | ((first | refine AOps.splitT rfl rfl rfl asm (fun h => ?_) | refine AOps.splitF rfl rfl rfl asm (fun h => ?_) | refine AOps.split rfl rfl rfl (fun h => ?_) (fun h => ?_)) <;> (fail_if_success (cases h; done)) <;> rw [h]))
        refine AK.freeze 3 rfl rfl rfl rfl ?_
        exact dq
      rw [vPar11b _ _ _ _ _ _ hi]
      have h1 := is_calls kind N P 23 S args
      rw [decide_eq_false hi] at h1
      refine QCalls.of Tryd.func47 rfl (fun args w => Tryd.call47 args w) (Nat.le_of_ble_eq_true rfl) [(0, .c (encTy (.mk 11 ts))), (1, .c (encNd (.mk kind N P S args)))] rfl fun β hβ => ?_; have hf := Tryd.func47
      refine AK.seq ?_
      refine AK.region Tryd.mixed rfl ?_
      repeat' (first | refine so ?_ | (refine uA rfl ?_ ?_ <;> (try (show (_ : Nat) * _ ≤ _; dsimp only))) | ((first | refine AOps.splitT rfl rfl rfl asm (fun h => ?_) | refine AOps.splitF rfl rfl rfl asm (fun h => ?_) | refine AOps.split rfl rfl rfl (fun h => ?_) (fun h => ?_)) <;> (fail_if_success (cases h; done)) <;> rw [h]))
      refine AK.freeze 3 rfl rfl rfl rfl ?_
      exact dq
    by_cases c : T = 12
    · subst c
      obtain ⟨u, u', rfl⟩ := tlen2 (show ts.length = 2 by have : arity 12 = 2 := by decide
                                                          omega)
      by_cases hi : kind = 2 ∧ P = 24
      · obtain ⟨rfl, rfl⟩ := hi
        rw [vPar12a]
        have h1 := is_calls 2 N 24 24 S args
        rw [show decide ((2 : Int) = 2 ∧ (24 : Int) = 24) = true from rfl] at h1
        have h2 := is_calls 2 N 24 25 S args
        rw [show decide ((2 : Int) = 2 ∧ (24 : Int) = 25) = false from rfl] at h2
        have hr := row_calls [u] args (by omega) fun x hx w hw => hin x hx w (tBads_mem hbs (by simp at hw ⊢; simp [hw])) (by have := tysSize_mem (l := [u, u']) (x := w) (by simp at hw ⊢; simp [hw]); omega)
        generalize vRow args [u] = z at hr
        refine QCalls.of Tryd.func47 rfl (fun args w => Tryd.call47 args w) (Nat.le_of_ble_eq_true rfl) [(0, .c (encTy (.mk 12 [u, u']))), (1, .c (encNd (.mk 2 N 24 S args)))] rfl fun β hβ => ?_; have hf := Tryd.func47
        refine AK.seq ?_
        refine AK.region Tryd.mixed rfl ?_
        repeat' (first | refine so ?_ | (refine uA rfl ?_ ?_ <;> (try (show (_ : Nat) * _ ≤ _; dsimp only))) | ((first | refine AOps.splitT rfl rfl rfl asm (fun h => ?_) | refine AOps.splitF rfl rfl rfl asm (fun h => ?_) | refine AOps.split rfl rfl rfl (fun h => ?_) (fun h => ?_)) <;> (fail_if_success (cases h; done)) <;> rw [h]))
        refine AK.freeze 3 rfl rfl rfl rfl ?_
        exact dq
      by_cases hj : kind = 2 ∧ P = 25
      · obtain ⟨rfl, rfl⟩ := hj
        rw [vPar12b]
        have h1 := is_calls 2 N 25 24 S args
        rw [show decide ((2 : Int) = 2 ∧ (25 : Int) = 24) = false from rfl] at h1
        have h2 := is_calls 2 N 25 25 S args
        rw [show decide ((2 : Int) = 2 ∧ (25 : Int) = 25) = true from rfl] at h2
        have hr := row_calls [u'] args (by omega) fun x hx w hw => hin x hx w (tBads_mem hbs (by simp at hw ⊢; simp [hw])) (by have := tysSize_mem (l := [u, u']) (x := w) (by simp at hw ⊢; simp [hw]); omega)
        generalize vRow args [u'] = z at hr
        refine QCalls.of Tryd.func47 rfl (fun args w => Tryd.call47 args w) (Nat.le_of_ble_eq_true rfl) [(0, .c (encTy (.mk 12 [u, u']))), (1, .c (encNd (.mk 2 N 25 S args)))] rfl fun β hβ => ?_; have hf := Tryd.func47
        refine AK.seq ?_
        refine AK.region Tryd.mixed rfl ?_
        repeat' (first | refine so ?_ | (refine uA rfl ?_ ?_ <;> (try (show (_ : Nat) * _ ≤ _; dsimp only))) | ((first | refine AOps.splitT rfl rfl rfl asm (fun h => ?_) | refine AOps.splitF rfl rfl rfl asm (fun h => ?_) | refine AOps.split rfl rfl rfl (fun h => ?_) (fun h => ?_)) <;> (fail_if_success (cases h; done)) <;> rw [h]))
        refine AK.freeze 3 rfl rfl rfl rfl ?_
        exact dq
      rw [vPar12c _ _ _ _ _ _ hi hj]
      have h1 := is_calls kind N P 24 S args
      have h2 := is_calls kind N P 25 S args
      rw [decide_eq_false hi] at h1
      rw [decide_eq_false hj] at h2
      refine QCalls.of Tryd.func47 rfl (fun args w => Tryd.call47 args w) (Nat.le_of_ble_eq_true rfl) [(0, .c (encTy (.mk 12 [u, u']))), (1, .c (encNd (.mk kind N P S args)))] rfl fun β hβ => ?_; have hf := Tryd.func47
      refine AK.seq ?_
      refine AK.region Tryd.mixed rfl ?_
      repeat' (first | refine so ?_ | (refine uA rfl ?_ ?_ <;> (try (show (_ : Nat) * _ ≤ _; dsimp only))) | ((first | refine AOps.splitT rfl rfl rfl asm (fun h => ?_) | refine AOps.splitF rfl rfl rfl asm (fun h => ?_) | refine AOps.split rfl rfl rfl (fun h => ?_) (fun h => ?_)) <;> (fail_if_success (cases h; done)) <;> rw [h]))
      refine AK.freeze 3 rfl rfl rfl rfl ?_
      exact dq
    by_cases c : T = 10
    · subst c
      obtain ⟨u, rfl⟩ := tlen1 (show ts.length = 1 by have : arity 10 = 1 := by decide
                                                      omega)
      rw [vPar10, ← int_eq]
      have hu : tBad u = false := tBads_mem hbs (by simp)
      have hus : tySize u ≤ 8589934593 := by have := tysSize_mem (l := [u]) (x := u) (by simp); omega
      have g1 : [u][0]? = some u := rfl
      obtain ⟨U, us⟩ := u
      refine QCalls.of Tryd.func47 rfl (fun args w => Tryd.call47 args w) (Nat.le_of_ble_eq_true rfl) [(0, .c (encTy (.mk 10 [.mk U us]))), (1, .c (encNd (.mk kind N P S args)))] rfl fun β hβ => ?_; have hf := Tryd.func47
      refine AK.seq ?_
      refine AK.region Tryd.mixed rfl ?_
      repeat' (first | refine so ?_ | (refine uA rfl ?_ ?_ <;> (try (show (_ : Nat) * _ ≤ _; dsimp only))) | ((first | refine AOps.splitT rfl rfl rfl asm (fun h => ?_) | refine AOps.splitF rfl rfl rfl asm (fun h => ?_) | refine AOps.split rfl rfl rfl (fun h => ?_) (fun h => ?_)) <;> (fail_if_success (cases h; done)) <;> rw [h]))
      refine AK.freeze 3 rfl rfl rfl rfl ?_
      repeat' (first | refine st ?_ | (refine AK.condS rfl (fun h => ?_) (fun h => ?_) <;> first | (cases h; done) | rw [h] | skip) | refine uQ hf rfl rfl ?_ | (refine uA rfl ?_ ?_ <;> (try (show (_ : Nat) * _ ≤ _; dsimp only))) | ((first | refine AOps.splitT rfl rfl rfl asm (fun h => ?_) | refine AOps.splitF rfl rfl rfl asm (fun h => ?_) | refine AOps.split rfl rfl rfl (fun h => ?_) (fun h => ?_)) <;> (fail_if_success (cases h; done)) <;> rw [h]))
      refine AK.ren [(2, 2), (4, 4), (6, 6)] [(6004, (0, none))] (env' := [(139, .c (.int .i64 (0 : Nat))), (138, .c (.int .i64 (encNds args).length)), (137, .c (.sl 5 (encNds args))), (7, .c (.bool (kind == 3))), (2, .ptr 2 0), (4, .ptr 4 0), (6, .ptr 6 0)])
        (bs' := [(2, [.c (.int .i64 10), .c (.sl 2 (encTys [.mk U us]))]), (4, [.c (.int .i64 0), .c (.int .i64 0), .c (.int .i64 0), .c (.str []), .own .exact 7 [], .own .exact 2 [], .own .exact 5 []]), (6, [.c (.int .i64 10), .c (.int .i64 0), .c (.int .i64 0), .c (.str []), .own (.tok 6004 0) 7 [], .own .exact 2 [], .own .exact 5 []])]) (ts' := [(6004, 0)]) (us' := [2, 4, 6, 6004])
        ⟨⟨_, rfl, .inl rfl⟩, ⟨_, rfl, .inl rfl⟩, ⟨_, rfl, .inl rfl⟩, ⟨_, rfl, .inl rfl⟩, ⟨_, rfl, ⟨_, rfl, rfl⟩⟩, ⟨_, rfl, ⟨_, rfl, rfl⟩⟩, ⟨_, rfl, ⟨_, rfl, rfl⟩⟩, trivial⟩ ⟨⟨_, _, rfl, rfl, ⟨_, _, rfl, .inl rfl, ⟨_, _, rfl, .inl rfl, rfl⟩⟩⟩, ⟨_, _, rfl, rfl, ⟨_, _, rfl, .inl rfl, ⟨_, _, rfl, .inl rfl, ⟨_, _, rfl, .inl rfl, ⟨_, _, rfl, .inl rfl, ⟨_, _, rfl, rfl, ⟨_, _, rfl, rfl, ⟨_, _, rfl, rfl, rfl⟩⟩⟩⟩⟩⟩⟩⟩, ⟨_, _, rfl, rfl, ⟨_, _, rfl, .inl rfl, ⟨_, _, rfl, .inl rfl, ⟨_, _, rfl, .inl rfl, ⟨_, _, rfl, .inl rfl, ⟨_, _, rfl, ⟨_, rfl, .inl ⟨rfl, _, rfl, .inr rfl⟩⟩, ⟨_, _, rfl, rfl, ⟨_, _, rfl, rfl, rfl⟩⟩⟩⟩⟩⟩⟩⟩, trivial⟩ rfl ?_
      refine AK.loopE (α := Nat × List Vl × Bool) (fun z => z.1 ≤ args.length ∧ z.1 = z.2.1.length ∧ (vParAll args (.mk U us)).1 = z.2.1 ++ (vParAll (args.drop z.1) (.mk U us)).1 ∧ ((kind == 3) && (vParAll args (.mk U us)).2) = (z.2.2 && (vParAll (args.drop z.1) (.mk U us)).2)) (fun z => args.length - z.1)
        (fun z => [(139, .c (.int .i64 z.1)), (138, .c (.int .i64 (encNds args).length)), (137, .c (.sl 5 (encNds args))), (7, .c (.bool z.2.2)), (2, .ptr 2 0), (4, .ptr 4 0), (6, .ptr 6 0)]) (fun z => [(2, [.c (.int .i64 10), .c (.sl 2 (encTys [.mk U us]))]), (4, [.c (.int .i64 0), .c (.int .i64 0), .c (.int .i64 0), .c (.str []), .own .exact 7 [], .own .exact 2 [], .own .exact 5 []]), (6, [.c (.int .i64 10), .c (.int .i64 0), .c (.int .i64 0), .c (.str []), .own (.tok 6004 0) 7 (encVls z.2.1), .own .exact 2 [], .own .exact 5 []])]) (fun _ => [(6004, 0)]) [2, 4, 6, 6004] (0, [], (kind == 3))
        ⟨by omega, rfl, by simp, rfl⟩ ⟨.inl rfl, .inl rfl, .inl rfl, .inl rfl, .inl rfl, .inl rfl, .inl rfl, trivial⟩ ⟨rfl, rfl, rfl, trivial⟩ ⟨rfl, trivial⟩ rfl rfl rfl ?_
      rintro ⟨i, acc, okb⟩ ⟨hi, hia, hinv, hinvb⟩ ih
      simp only at hi hia hinv hinvb
      rcases get_or args i hi with ⟨x, hx, hm⟩ | he
      rotate_left
      · have hc := nds_end he
        rw [he, List.drop_length, vParAll_nil] at hinv hinvb
        simp only [List.append_nil, Bool.and_true] at hinv hinvb
        rw [hinv, hinvb]
        clear ih hinv hinvb
        exact dq
      have hc := nds_lt hx
      have h2 := lt_of_get hx
      have hq := hin x hm (.mk U us) hu hus
      rw [drop_at hx, vParAll_cons] at hinv hinvb
      rcases hr : vPar x (.mk U us) with ⟨⟨y1, y2, y3, y4, y5, y6, y7⟩, good⟩
      rw [hr] at hq hinv hinvb
      simp only at hq hinv hinvb
      rw [show ∀ (a : List Vl) (b : Vl) (c : List Vl), a ++ b :: c = a ++ [b] ++ c from fun a b c => by simp] at hinv
      obtain ⟨xk, xn, xp, xs, xa⟩ := x
      cases okb with
      | false =>
        repeat' (first | refine st ?_ | (refine AK.condS rfl (fun h => ?_) (fun h => ?_) <;> first | (cases h; done) | rw [h] | skip) | refine uQ hf rfl rfl ?_ | refine uI rfl (i) rfl (nds_at hx) rfl ?_ | refine uI rfl (0) rfl (tys_at g1) rfl ?_ | refine uC rfl hq ?_ | (refine uA rfl ?_ ?_ <;> (try (show (_ : Nat) * _ ≤ _; dsimp only))) | ((first | refine AOps.splitT rfl rfl rfl asm (fun h => ?_) | refine AOps.splitF rfl rfl rfl asm (fun h => ?_) | refine AOps.split rfl rfl rfl (fun h => ?_) (fun h => ?_)) <;> (fail_if_success (cases h; done)) <;> rw [h]))
        · have h1 := encVls_length acc
          simp only [List.length_cons, List.length_nil]
          omega
        · have hap : encVls acc ++ [encVl (Vl.mk y1 y2 y3 y4 y5 y6 y7)] = encVls (acc ++ [(Vl.mk y1 y2 y3 y4 y5 y6 y7)]) := (encVls_append acc [_]).symm
          refine AK.ren [(2, 2), (4, 4), (6, 6)] [(6004, (0, some 6004))] (env' := [(139, .c (.int .i64 ((i + 1 : Nat) : Int))), (138, .c (.int .i64 (encNds args).length)), (137, .c (.sl 5 (encNds args))), (7, .c (.bool false)), (2, .ptr 2 0), (4, .ptr 4 0), (6, .ptr 6 0)])
            (bs' := [(2, [.c (.int .i64 10), .c (.sl 2 (encTys [.mk U us]))]), (4, [.c (.int .i64 0), .c (.int .i64 0), .c (.int .i64 0), .c (.str []), .own .exact 7 [], .own .exact 2 [], .own .exact 5 []]), (6, [.c (.int .i64 10), .c (.int .i64 0), .c (.int .i64 0), .c (.str []), .own (.tok 6004 0) 7 (encVls (acc ++ [(Vl.mk y1 y2 y3 y4 y5 y6 y7)])), .own .exact 2 [], .own .exact 5 []])]) (ts' := [(6004, 0)]) (us' := [2, 4, 6, 6004])
            ⟨⟨_, rfl, .inl (succ64' (i := i) (by omega))⟩, ⟨_, rfl, .inl rfl⟩, ⟨_, rfl, .inl rfl⟩, ⟨_, rfl, .inl rfl⟩, ⟨_, rfl, ⟨_, rfl, rfl⟩⟩, ⟨_, rfl, ⟨_, rfl, rfl⟩⟩, ⟨_, rfl, ⟨_, rfl, rfl⟩⟩, trivial⟩ ⟨⟨_, _, rfl, rfl, ⟨_, _, rfl, .inl rfl, ⟨_, _, rfl, .inl rfl, rfl⟩⟩⟩, ⟨_, _, rfl, rfl, ⟨_, _, rfl, .inl rfl, ⟨_, _, rfl, .inl rfl, ⟨_, _, rfl, .inl rfl, ⟨_, _, rfl, .inl rfl, ⟨_, _, rfl, rfl, ⟨_, _, rfl, rfl, ⟨_, _, rfl, rfl, rfl⟩⟩⟩⟩⟩⟩⟩⟩, ⟨_, _, rfl, rfl, ⟨_, _, rfl, .inl rfl, ⟨_, _, rfl, .inl rfl, ⟨_, _, rfl, .inl rfl, ⟨_, _, rfl, .inl rfl, ⟨_, _, rfl, ⟨_, rfl, .inr ⟨_, _, rfl, rfl, congrArg (AV.own (.tok 6004 1) 7) hap⟩⟩, ⟨_, _, rfl, rfl, ⟨_, _, rfl, rfl, rfl⟩⟩⟩⟩⟩⟩⟩⟩, trivial⟩ rfl ?_
          exact ih (i + 1, acc ++ [(Vl.mk y1 y2 y3 y4 y5 y6 y7)], false) ⟨h2, by simp [hia], hinv, (by simpa using hinvb)⟩ (by show args.length - (i + 1) < args.length - i; omega)
      | true =>
        repeat' (first | refine st ?_ | (refine AK.condS rfl (fun h => ?_) (fun h => ?_) <;> first | (cases h; done) | rw [h] | skip) | refine uQ hf rfl rfl ?_ | refine uI rfl (i) rfl (nds_at hx) rfl ?_ | refine uI rfl (0) rfl (tys_at g1) rfl ?_ | refine uC rfl hq ?_ | (refine uA rfl ?_ ?_ <;> (try (show (_ : Nat) * _ ≤ _; dsimp only))) | ((first | refine AOps.splitT rfl rfl rfl asm (fun h => ?_) | refine AOps.splitF rfl rfl rfl asm (fun h => ?_) | refine AOps.split rfl rfl rfl (fun h => ?_) (fun h => ?_)) <;> (fail_if_success (cases h; done)) <;> rw [h]))
        · have h1 := encVls_length acc
          simp only [List.length_cons, List.length_nil]
          omega
        · have hap : encVls acc ++ [encVl (Vl.mk y1 y2 y3 y4 y5 y6 y7)] = encVls (acc ++ [(Vl.mk y1 y2 y3 y4 y5 y6 y7)]) := (encVls_append acc [_]).symm
          refine AK.ren [(2, 2), (4, 4), (6, 6)] [(6004, (0, some 6004))] (env' := [(139, .c (.int .i64 ((i + 1 : Nat) : Int))), (138, .c (.int .i64 (encNds args).length)), (137, .c (.sl 5 (encNds args))), (7, .c (.bool good)), (2, .ptr 2 0), (4, .ptr 4 0), (6, .ptr 6 0)])
            (bs' := [(2, [.c (.int .i64 10), .c (.sl 2 (encTys [.mk U us]))]), (4, [.c (.int .i64 0), .c (.int .i64 0), .c (.int .i64 0), .c (.str []), .own .exact 7 [], .own .exact 2 [], .own .exact 5 []]), (6, [.c (.int .i64 10), .c (.int .i64 0), .c (.int .i64 0), .c (.str []), .own (.tok 6004 0) 7 (encVls (acc ++ [(Vl.mk y1 y2 y3 y4 y5 y6 y7)])), .own .exact 2 [], .own .exact 5 []])]) (ts' := [(6004, 0)]) (us' := [2, 4, 6, 6004])
            ⟨⟨_, rfl, .inl (succ64' (i := i) (by omega))⟩, ⟨_, rfl, .inl rfl⟩, ⟨_, rfl, .inl rfl⟩, ⟨_, rfl, .inl rfl⟩, ⟨_, rfl, ⟨_, rfl, rfl⟩⟩, ⟨_, rfl, ⟨_, rfl, rfl⟩⟩, ⟨_, rfl, ⟨_, rfl, rfl⟩⟩, trivial⟩ ⟨⟨_, _, rfl, rfl, ⟨_, _, rfl, .inl rfl, ⟨_, _, rfl, .inl rfl, rfl⟩⟩⟩, ⟨_, _, rfl, rfl, ⟨_, _, rfl, .inl rfl, ⟨_, _, rfl, .inl rfl, ⟨_, _, rfl, .inl rfl, ⟨_, _, rfl, .inl rfl, ⟨_, _, rfl, rfl, ⟨_, _, rfl, rfl, ⟨_, _, rfl, rfl, rfl⟩⟩⟩⟩⟩⟩⟩⟩, ⟨_, _, rfl, rfl, ⟨_, _, rfl, .inl rfl, ⟨_, _, rfl, .inl rfl, ⟨_, _, rfl, .inl rfl, ⟨_, _, rfl, .inl rfl, ⟨_, _, rfl, ⟨_, rfl, .inr ⟨_, _, rfl, rfl, congrArg (AV.own (.tok 6004 1) 7) hap⟩⟩, ⟨_, _, rfl, rfl, ⟨_, _, rfl, rfl, rfl⟩⟩⟩⟩⟩⟩⟩⟩, trivial⟩ rfl ?_
          exact ih (i + 1, acc ++ [(Vl.mk y1 y2 y3 y4 y5 y6 y7)], good) ⟨h2, by simp [hia], hinv, (by simpa using hinvb)⟩ (by show args.length - (i + 1) < args.length - i; omega)
    by_cases c : T = 13
    · subst c
      rw [vPar13, ← int_eq]
      refine QCalls.of Tryd.func47 rfl (fun args w => Tryd.call47 args w) (Nat.le_of_ble_eq_true rfl) [(0, .c (encTy (.mk 13 ts))), (1, .c (encNd (.mk kind N P S args)))] rfl fun β hβ => ?_; have hf := Tryd.func47
      refine AK.seq ?_
      refine AK.region Tryd.mixed rfl ?_
      repeat' (first | refine so ?_ | (refine uA rfl ?_ ?_ <;> (try (show (_ : Nat) * _ ≤ _; dsimp only))) | ((first | refine AOps.splitT rfl rfl rfl asm (fun h => ?_) | refine AOps.splitF rfl rfl rfl asm (fun h => ?_) | refine AOps.split rfl rfl rfl (fun h => ?_) (fun h => ?_)) <;> (fail_if_success (cases h; done)) <;> rw [h]))
      refine AK.freeze 3 rfl rfl rfl rfl ?_
      repeat' (first | refine st ?_ | (refine AK.condS rfl (fun h => ?_) (fun h => ?_) <;> first | (cases h; done) | rw [h] | skip) | refine uQ hf rfl rfl ?_ | (refine uA rfl ?_ ?_ <;> (try (show (_ : Nat) * _ ≤ _; dsimp only))) | ((first | refine AOps.splitT rfl rfl rfl asm (fun h => ?_) | refine AOps.splitF rfl rfl rfl asm (fun h => ?_) | refine AOps.split rfl rfl rfl (fun h => ?_) (fun h => ?_)) <;> (fail_if_success (cases h; done)) <;> rw [h]))
      refine AK.ren [(2, 2), (4, 4), (6, 6)] [(6004, (0, none))] (env' := [(171, .c (.int .i64 (0 : Nat))), (170, .c (.int .i64 (encNds args).length)), (169, .c (.sl 5 (encNds args))), (7, .c (.bool (kind == 3))), (2, .ptr 2 0), (4, .ptr 4 0), (6, .ptr 6 0)])
        (bs' := [(2, [.c (.int .i64 13), .c (.sl 2 (encTys ts))]), (4, [.c (.int .i64 0), .c (.int .i64 0), .c (.int .i64 0), .c (.str []), .own .exact 7 [], .own .exact 2 [], .own .exact 5 []]), (6, [.c (.int .i64 13), .c (.int .i64 0), .c (.int .i64 0), .c (.str []), .own (.tok 6004 0) 7 [], .own .exact 2 [], .own .exact 5 []])]) (ts' := [(6004, 0)]) (us' := [2, 4, 6, 6004])
        ⟨⟨_, rfl, .inl rfl⟩, ⟨_, rfl, .inl rfl⟩, ⟨_, rfl, .inl rfl⟩, ⟨_, rfl, .inl rfl⟩, ⟨_, rfl, ⟨_, rfl, rfl⟩⟩, ⟨_, rfl, ⟨_, rfl, rfl⟩⟩, ⟨_, rfl, ⟨_, rfl, rfl⟩⟩, trivial⟩ ⟨⟨_, _, rfl, rfl, ⟨_, _, rfl, .inl rfl, ⟨_, _, rfl, .inl rfl, rfl⟩⟩⟩, ⟨_, _, rfl, rfl, ⟨_, _, rfl, .inl rfl, ⟨_, _, rfl, .inl rfl, ⟨_, _, rfl, .inl rfl, ⟨_, _, rfl, .inl rfl, ⟨_, _, rfl, rfl, ⟨_, _, rfl, rfl, ⟨_, _, rfl, rfl, rfl⟩⟩⟩⟩⟩⟩⟩⟩, ⟨_, _, rfl, rfl, ⟨_, _, rfl, .inl rfl, ⟨_, _, rfl, .inl rfl, ⟨_, _, rfl, .inl rfl, ⟨_, _, rfl, .inl rfl, ⟨_, _, rfl, ⟨_, rfl, .inl ⟨rfl, _, rfl, .inr rfl⟩⟩, ⟨_, _, rfl, rfl, ⟨_, _, rfl, rfl, rfl⟩⟩⟩⟩⟩⟩⟩⟩, trivial⟩ rfl ?_
      refine AK.loopE (α := Nat × List Vl × Bool) (fun z => z.1 ≤ args.length ∧ z.1 = z.2.1.length ∧ (vParMap args ts).1 = z.2.1 ++ (vParMap (args.drop z.1) ts).1 ∧ ((kind == 3) && (vParMap args ts).2) = (z.2.2 && (vParMap (args.drop z.1) ts).2)) (fun z => args.length - z.1)
        (fun z => [(171, .c (.int .i64 z.1)), (170, .c (.int .i64 (encNds args).length)), (169, .c (.sl 5 (encNds args))), (7, .c (.bool z.2.2)), (2, .ptr 2 0), (4, .ptr 4 0), (6, .ptr 6 0)]) (fun z => [(2, [.c (.int .i64 13), .c (.sl 2 (encTys ts))]), (4, [.c (.int .i64 0), .c (.int .i64 0), .c (.int .i64 0), .c (.str []), .own .exact 7 [], .own .exact 2 [], .own .exact 5 []]), (6, [.c (.int .i64 13), .c (.int .i64 0), .c (.int .i64 0), .c (.str []), .own (.tok 6004 0) 7 (encVls z.2.1), .own .exact 2 [], .own .exact 5 []])]) (fun _ => [(6004, 0)]) [2, 4, 6, 6004] (0, [], (kind == 3))
        ⟨by omega, rfl, by simp, rfl⟩ ⟨.inl rfl, .inl rfl, .inl rfl, .inl rfl, .inl rfl, .inl rfl, .inl rfl, trivial⟩ ⟨rfl, rfl, rfl, trivial⟩ ⟨rfl, trivial⟩ rfl rfl rfl ?_
      rintro ⟨i, acc, okb⟩ ⟨hi, hia, hinv, hinvb⟩ ih
      simp only at hi hia hinv hinvb
      rcases get_or args i hi with ⟨x, hx, hm⟩ | he
      rotate_left
      · have hc := nds_end he
        rw [he, List.drop_length, vParMap_nil] at hinv hinvb
        simp only [List.append_nil, Bool.and_true] at hinv hinvb
        rw [hinv, hinvb]
        clear ih hinv hinvb
        exact dq
      have hc := nds_lt hx
      have h2 := lt_of_get hx
      obtain ⟨xk, xn, xp, xs, xa⟩ := x
      have hxs := ndsSize_mem hm
      simp only [ndSize] at hxs
      have hxl := ndsSize_len xa
      have hq := row_calls ts xa (by omega) fun y hy u hu => hin2 xk xn xp xs xa hm y hy u (tBads_mem hbs hu) (by have := tysSize_mem hu; omega)
      rw [drop_at hx, vParMap_cons] at hinv hinvb
      rcases hr : vRow xa ts with ⟨q, good⟩
      rw [hr] at hq hinv hinvb
      simp only at hq hinv hinvb
      rw [show ∀ (a : List Vl) (b : Vl) (c : List Vl), a ++ b :: c = a ++ [b] ++ c from fun a b c => by simp] at hinv
      cases okb with
      | false =>
        repeat' (first | refine st ?_ | (refine AK.condS rfl (fun h => ?_) (fun h => ?_) <;> first | (cases h; done) | rw [h] | skip) | refine uQ hf rfl rfl ?_ | refine uI rfl (i) rfl (nds_at hx) rfl ?_ | refine uC rfl hq ?_ | (refine uA rfl ?_ ?_ <;> (try (show (_ : Nat) * _ ≤ _; dsimp only))) | ((first | refine AOps.splitT rfl rfl rfl asm (fun h => ?_) | refine AOps.splitF rfl rfl rfl asm (fun h => ?_) | refine AOps.split rfl rfl rfl (fun h => ?_) (fun h => ?_)) <;> (fail_if_success (cases h; done)) <;> rw [h]))
        · have h1 := encVls_length acc
          simp only [List.length_cons, List.length_nil]
          omega
        · have hap : encVls acc ++ [encVl (Vl.mk 11 0 0 [] q [] [])] = encVls (acc ++ [(Vl.mk 11 0 0 [] q [] [])]) := (encVls_append acc [_]).symm
          refine AK.ren [(2, 2), (4, 4), (6, 6)] [(6004, (0, some 6004))] (env' := [(171, .c (.int .i64 ((i + 1 : Nat) : Int))), (170, .c (.int .i64 (encNds args).length)), (169, .c (.sl 5 (encNds args))), (7, .c (.bool false)), (2, .ptr 2 0), (4, .ptr 4 0), (6, .ptr 6 0)])
            (bs' := [(2, [.c (.int .i64 13), .c (.sl 2 (encTys ts))]), (4, [.c (.int .i64 0), .c (.int .i64 0), .c (.int .i64 0), .c (.str []), .own .exact 7 [], .own .exact 2 [], .own .exact 5 []]), (6, [.c (.int .i64 13), .c (.int .i64 0), .c (.int .i64 0), .c (.str []), .own (.tok 6004 0) 7 (encVls (acc ++ [(Vl.mk 11 0 0 [] q [] [])])), .own .exact 2 [], .own .exact 5 []])]) (ts' := [(6004, 0)]) (us' := [2, 4, 6, 6004])
            ⟨⟨_, rfl, .inl (succ64' (i := i) (by omega))⟩, ⟨_, rfl, .inl rfl⟩, ⟨_, rfl, .inl rfl⟩, ⟨_, rfl, .inl rfl⟩, ⟨_, rfl, ⟨_, rfl, rfl⟩⟩, ⟨_, rfl, ⟨_, rfl, rfl⟩⟩, ⟨_, rfl, ⟨_, rfl, rfl⟩⟩, trivial⟩ ⟨⟨_, _, rfl, rfl, ⟨_, _, rfl, .inl rfl, ⟨_, _, rfl, .inl rfl, rfl⟩⟩⟩, ⟨_, _, rfl, rfl, ⟨_, _, rfl, .inl rfl, ⟨_, _, rfl, .inl rfl, ⟨_, _, rfl, .inl rfl, ⟨_, _, rfl, .inl rfl, ⟨_, _, rfl, rfl, ⟨_, _, rfl, rfl, ⟨_, _, rfl, rfl, rfl⟩⟩⟩⟩⟩⟩⟩⟩, ⟨_, _, rfl, rfl, ⟨_, _, rfl, .inl rfl, ⟨_, _, rfl, .inl rfl, ⟨_, _, rfl, .inl rfl, ⟨_, _, rfl, .inl rfl, ⟨_, _, rfl, ⟨_, rfl, .inr ⟨_, _, rfl, rfl, congrArg (AV.own (.tok 6004 1) 7) hap⟩⟩, ⟨_, _, rfl, rfl, ⟨_, _, rfl, rfl, rfl⟩⟩⟩⟩⟩⟩⟩⟩, trivial⟩ rfl ?_
          exact ih (i + 1, acc ++ [(Vl.mk 11 0 0 [] q [] [])], false) ⟨h2, by simp [hia], hinv, (by simpa using hinvb)⟩ (by show args.length - (i + 1) < args.length - i; omega)
      | true =>
        cases good with
        | false =>
          repeat' (first | refine st ?_ | (refine AK.condS rfl (fun h => ?_) (fun h => ?_) <;> first | (cases h; done) | rw [h] | skip) | refine uQ hf rfl rfl ?_ | refine uI rfl (i) rfl (nds_at hx) rfl ?_ | refine uC rfl hq ?_ | (refine uA rfl ?_ ?_ <;> (try (show (_ : Nat) * _ ≤ _; dsimp only))) | ((first | refine AOps.splitT rfl rfl rfl asm (fun h => ?_) | refine AOps.splitF rfl rfl rfl asm (fun h => ?_) | refine AOps.split rfl rfl rfl (fun h => ?_) (fun h => ?_)) <;> (fail_if_success (cases h; done)) <;> rw [h]))
          · have h1 := encVls_length acc
            simp only [List.length_cons, List.length_nil]
            omega
          · have hap : encVls acc ++ [encVl (Vl.mk 11 0 0 [] q [] [])] = encVls (acc ++ [(Vl.mk 11 0 0 [] q [] [])]) := (encVls_append acc [_]).symm
            refine AK.ren [(2, 2), (4, 4), (6, 6)] [(6004, (0, some 6004))] (env' := [(171, .c (.int .i64 ((i + 1 : Nat) : Int))), (170, .c (.int .i64 (encNds args).length)), (169, .c (.sl 5 (encNds args))), (7, .c (.bool false)), (2, .ptr 2 0), (4, .ptr 4 0), (6, .ptr 6 0)])
              (bs' := [(2, [.c (.int .i64 13), .c (.sl 2 (encTys ts))]), (4, [.c (.int .i64 0), .c (.int .i64 0), .c (.int .i64 0), .c (.str []), .own .exact 7 [], .own .exact 2 [], .own .exact 5 []]), (6, [.c (.int .i64 13), .c (.int .i64 0), .c (.int .i64 0), .c (.str []), .own (.tok 6004 0) 7 (encVls (acc ++ [(Vl.mk 11 0 0 [] q [] [])])), .own .exact 2 [], .own .exact 5 []])]) (ts' := [(6004, 0)]) (us' := [2, 4, 6, 6004])
              ⟨⟨_, rfl, .inl (succ64' (i := i) (by omega))⟩, ⟨_, rfl, .inl rfl⟩, ⟨_, rfl, .inl rfl⟩, ⟨_, rfl, .inl rfl⟩, ⟨_, rfl, ⟨_, rfl, rfl⟩⟩, ⟨_, rfl, ⟨_, rfl, rfl⟩⟩, ⟨_, rfl, ⟨_, rfl, rfl⟩⟩, trivial⟩ ⟨⟨_, _, rfl, rfl, ⟨_, _, rfl, .inl rfl, ⟨_, _, rfl, .inl rfl, rfl⟩⟩⟩, ⟨_, _, rfl, rfl, ⟨_, _, rfl, .inl rfl, ⟨_, _, rfl, .inl rfl, ⟨_, _, rfl, .inl rfl, ⟨_, _, rfl, .inl rfl, ⟨_, _, rfl, rfl, ⟨_, _, rfl, rfl, ⟨_, _, rfl, rfl, rfl⟩⟩⟩⟩⟩⟩⟩⟩, ⟨_, _, rfl, rfl, ⟨_, _, rfl, .inl rfl, ⟨_, _, rfl, .inl rfl, ⟨_, _, rfl, .inl rfl, ⟨_, _, rfl, .inl rfl, ⟨_, _, rfl, ⟨_, rfl, .inr ⟨_, _, rfl, rfl, congrArg (AV.own (.tok 6004 1) 7) hap⟩⟩, ⟨_, _, rfl, rfl, ⟨_, _, rfl, rfl, rfl⟩⟩⟩⟩⟩⟩⟩⟩, trivial⟩ rfl ?_
            exact ih (i + 1, acc ++ [(Vl.mk 11 0 0 [] q [] [])], false) ⟨h2, by simp [hia], hinv, (by simpa using hinvb)⟩ (by show args.length - (i + 1) < args.length - i; omega)
        | true =>
          by_cases k2 : xk = 2
          rotate_left
          · have e2 : (xk == 2) = false := by simpa using k2
            have hb' : ((kind == 3) && (vParMap args ts).2) = (false && (vParMap (args.drop (i + 1)) ts).2) := by rw [hinvb]; simp [k2]
            repeat' (first | refine st ?_ | (refine AK.condS rfl (fun h => ?_) (fun h => ?_) <;> first | (cases h; done) | rw [h] | skip) | refine uQ hf rfl rfl ?_ | refine uI rfl (i) rfl (nds_at hx) rfl ?_ | refine uC rfl hq ?_ | (refine uA rfl ?_ ?_ <;> (try (show (_ : Nat) * _ ≤ _; dsimp only))) | ((first | refine AOps.splitT rfl rfl rfl asm (fun h => ?_) | refine AOps.splitF rfl rfl rfl asm (fun h => ?_) | refine AOps.split rfl rfl rfl (fun h => ?_) (fun h => ?_)) <;> (fail_if_success (cases h; done)) <;> rw [h]))
            · have h1 := encVls_length acc
              simp only [List.length_cons, List.length_nil]
              omega
            · have hap : encVls acc ++ [encVl (Vl.mk 11 0 0 [] q [] [])] = encVls (acc ++ [(Vl.mk 11 0 0 [] q [] [])]) := (encVls_append acc [_]).symm
              refine AK.ren [(2, 2), (4, 4), (6, 6)] [(6004, (0, some 6004))] (env' := [(171, .c (.int .i64 ((i + 1 : Nat) : Int))), (170, .c (.int .i64 (encNds args).length)), (169, .c (.sl 5 (encNds args))), (7, .c (.bool false)), (2, .ptr 2 0), (4, .ptr 4 0), (6, .ptr 6 0)])
                (bs' := [(2, [.c (.int .i64 13), .c (.sl 2 (encTys ts))]), (4, [.c (.int .i64 0), .c (.int .i64 0), .c (.int .i64 0), .c (.str []), .own .exact 7 [], .own .exact 2 [], .own .exact 5 []]), (6, [.c (.int .i64 13), .c (.int .i64 0), .c (.int .i64 0), .c (.str []), .own (.tok 6004 0) 7 (encVls (acc ++ [(Vl.mk 11 0 0 [] q [] [])])), .own .exact 2 [], .own .exact 5 []])]) (ts' := [(6004, 0)]) (us' := [2, 4, 6, 6004])
                ⟨⟨_, rfl, .inl (succ64' (i := i) (by omega))⟩, ⟨_, rfl, .inl rfl⟩, ⟨_, rfl, .inl rfl⟩, ⟨_, rfl, .inl rfl⟩, ⟨_, rfl, ⟨_, rfl, rfl⟩⟩, ⟨_, rfl, ⟨_, rfl, rfl⟩⟩, ⟨_, rfl, ⟨_, rfl, rfl⟩⟩, trivial⟩ ⟨⟨_, _, rfl, rfl, ⟨_, _, rfl, .inl rfl, ⟨_, _, rfl, .inl rfl, rfl⟩⟩⟩, ⟨_, _, rfl, rfl, ⟨_, _, rfl, .inl rfl, ⟨_, _, rfl, .inl rfl, ⟨_, _, rfl, .inl rfl, ⟨_, _, rfl, .inl rfl, ⟨_, _, rfl, rfl, ⟨_, _, rfl, rfl, ⟨_, _, rfl, rfl, rfl⟩⟩⟩⟩⟩⟩⟩⟩, ⟨_, _, rfl, rfl, ⟨_, _, rfl, .inl rfl, ⟨_, _, rfl, .inl rfl, ⟨_, _, rfl, .inl rfl, ⟨_, _, rfl, .inl rfl, ⟨_, _, rfl, ⟨_, rfl, .inr ⟨_, _, rfl, rfl, congrArg (AV.own (.tok 6004 1) 7) hap⟩⟩, ⟨_, _, rfl, rfl, ⟨_, _, rfl, rfl, rfl⟩⟩⟩⟩⟩⟩⟩⟩, trivial⟩ rfl ?_
              exact ih (i + 1, acc ++ [(Vl.mk 11 0 0 [] q [] [])], false) ⟨h2, by simp [hia], hinv, hb'⟩ (by show args.length - (i + 1) < args.length - i; omega)
          subst k2
          have hb' : ((kind == 3) && (vParMap args ts).2) = ((xp == 28) && (vParMap (args.drop (i + 1)) ts).2) := by rw [hinvb, int_eq]; simp
          repeat' (first | refine st ?_ | (refine AK.condS rfl (fun h => ?_) (fun h => ?_) <;> first | (cases h; done) | rw [h] | skip) | refine uQ hf rfl rfl ?_ | refine uI rfl (i) rfl (nds_at hx) rfl ?_ | refine uC rfl hq ?_ | (refine uA rfl ?_ ?_ <;> (try (show (_ : Nat) * _ ≤ _; dsimp only))) | ((first | refine AOps.splitT rfl rfl rfl asm (fun h => ?_) | refine AOps.splitF rfl rfl rfl asm (fun h => ?_) | refine AOps.split rfl rfl rfl (fun h => ?_) (fun h => ?_)) <;> (fail_if_success (cases h; done)) <;> rw [h]))
          · have h1 := encVls_length acc
            simp only [List.length_cons, List.length_nil]
            omega
          · have hap : encVls acc ++ [encVl (Vl.mk 11 0 0 [] q [] [])] = encVls (acc ++ [(Vl.mk 11 0 0 [] q [] [])]) := (encVls_append acc [_]).symm
            refine AK.ren [(2, 2), (4, 4), (6, 6)] [(6004, (0, some 6004))] (env' := [(171, .c (.int .i64 ((i + 1 : Nat) : Int))), (170, .c (.int .i64 (encNds args).length)), (169, .c (.sl 5 (encNds args))), (7, .c (.bool (xp == 28))), (2, .ptr 2 0), (4, .ptr 4 0), (6, .ptr 6 0)])
              (bs' := [(2, [.c (.int .i64 13), .c (.sl 2 (encTys ts))]), (4, [.c (.int .i64 0), .c (.int .i64 0), .c (.int .i64 0), .c (.str []), .own .exact 7 [], .own .exact 2 [], .own .exact 5 []]), (6, [.c (.int .i64 13), .c (.int .i64 0), .c (.int .i64 0), .c (.str []), .own (.tok 6004 0) 7 (encVls (acc ++ [(Vl.mk 11 0 0 [] q [] [])])), .own .exact 2 [], .own .exact 5 []])]) (ts' := [(6004, 0)]) (us' := [2, 4, 6, 6004])
              ⟨⟨_, rfl, .inl (succ64' (i := i) (by omega))⟩, ⟨_, rfl, .inl rfl⟩, ⟨_, rfl, .inl rfl⟩, ⟨_, rfl, .inl rfl⟩, ⟨_, rfl, ⟨_, rfl, rfl⟩⟩, ⟨_, rfl, ⟨_, rfl, rfl⟩⟩, ⟨_, rfl, ⟨_, rfl, rfl⟩⟩, trivial⟩ ⟨⟨_, _, rfl, rfl, ⟨_, _, rfl, .inl rfl, ⟨_, _, rfl, .inl rfl, rfl⟩⟩⟩, ⟨_, _, rfl, rfl, ⟨_, _, rfl, .inl rfl, ⟨_, _, rfl, .inl rfl, ⟨_, _, rfl, .inl rfl, ⟨_, _, rfl, .inl rfl, ⟨_, _, rfl, rfl, ⟨_, _, rfl, rfl, ⟨_, _, rfl, rfl, rfl⟩⟩⟩⟩⟩⟩⟩⟩, ⟨_, _, rfl, rfl, ⟨_, _, rfl, .inl rfl, ⟨_, _, rfl, .inl rfl, ⟨_, _, rfl, .inl rfl, ⟨_, _, rfl, .inl rfl, ⟨_, _, rfl, ⟨_, rfl, .inr ⟨_, _, rfl, rfl, congrArg (AV.own (.tok 6004 1) 7) hap⟩⟩, ⟨_, _, rfl, rfl, ⟨_, _, rfl, rfl, rfl⟩⟩⟩⟩⟩⟩⟩⟩, trivial⟩ rfl ?_
            exact ih (i + 1, acc ++ [(Vl.mk 11 0 0 [] q [] [])], (xp == 28)) ⟨h2, by simp [hia], hinv, hb'⟩ (by show args.length - (i + 1) < args.length - i; omega)
    have hT : T = 8 ∨ T = 14 ∨ T = 15 := by have := arity_in har; omega
    rw [vParX T kind N P hT]
    rcases hT with rfl | rfl | rfl
    · refine QCalls.of Tryd.func47 rfl (fun args w => Tryd.call47 args w) (Nat.le_of_ble_eq_true rfl) [(0, .c (encTy (.mk 8 ts))), (1, .c (encNd (.mk kind N P S args)))] rfl fun β hβ => ?_; have hf := Tryd.func47
      refine AK.seq ?_
      refine AK.region Tryd.mixed rfl ?_
      repeat' (first | refine so ?_ | (refine uA rfl ?_ ?_ <;> (try (show (_ : Nat) * _ ≤ _; dsimp only))) | ((first | refine AOps.splitT rfl rfl rfl asm (fun h => ?_) | refine AOps.splitF rfl rfl rfl asm (fun h => ?_) | refine AOps.split rfl rfl rfl (fun h => ?_) (fun h => ?_)) <;> (fail_if_success (cases h; done)) <;> rw [h]))
      refine AK.freeze 3 rfl rfl rfl rfl ?_
      exact dq
    · refine QCalls.of Tryd.func47 rfl (fun args w => Tryd.call47 args w) (Nat.le_of_ble_eq_true rfl) [(0, .c (encTy (.mk 14 ts))), (1, .c (encNd (.mk kind N P S args)))] rfl fun β hβ => ?_; have hf := Tryd.func47
      refine AK.seq ?_
      refine AK.region Tryd.mixed rfl ?_
      repeat' (first | refine so ?_ | (refine uA rfl ?_ ?_ <;> (try (show (_ : Nat) * _ ≤ _; dsimp only))) | ((first | refine AOps.splitT rfl rfl rfl asm (fun h => ?_) | refine AOps.splitF rfl rfl rfl asm (fun h => ?_) | refine AOps.split rfl rfl rfl (fun h => ?_) (fun h => ?_)) <;> (fail_if_success (cases h; done)) <;> rw [h]))
      refine AK.freeze 3 rfl rfl rfl rfl ?_
      exact dq
    · refine QCalls.of Tryd.func47 rfl (fun args w => Tryd.call47 args w) (Nat.le_of_ble_eq_true rfl) [(0, .c (encTy (.mk 15 ts))), (1, .c (encNd (.mk kind N P S args)))] rfl fun β hβ => ?_; have hf := Tryd.func47
      refine AK.seq ?_
      refine AK.region Tryd.mixed rfl ?_
      repeat' (first | refine so ?_ | (refine uA rfl ?_ ?_ <;> (try (show (_ : Nat) * _ ≤ _; dsimp only))) | ((first | refine AOps.splitT rfl rfl rfl asm (fun h => ?_) | refine AOps.splitF rfl rfl rfl asm (fun h => ?_) | refine AOps.split rfl rfl rfl (fun h => ?_) (fun h => ?_)) <;> (fail_if_success (cases h; done)) <;> rw [h]))
      refine AK.freeze 3 rfl rfl rfl rfl ?_
      exact dq
termination_by n => SizeOf.sizeOf n
decreasing_by
  · have h1 := List.sizeOf_lt_of_mem hx
    simp at h1 ⊢; omega
  · have h1 := List.sizeOf_lt_of_mem hx
    have h2 := List.sizeOf_lt_of_mem hy
    simp at h1 h2 ⊢; omega
end Go.Proofs

-- WIDE
-- OLDASM
set_option linter.unusedVariables false
set_option linter.unusedSimpArgs false
namespace Go.Proofs
open Go.Abs

theorem rows1 (rows : List CV) (l : List UInt8) (b : UInt8) (z : Int) (h : z = (b.toNat : Int)) : rows ++ byteRows l ++ [CV.int .u8 z] = rows ++ byteRows (l ++ [b]) := by
  subst h; simp [byteRows]
attribute [local irreducible] AK AOps QCalls ECalls

end Go.Proofs

set_option linter.unusedVariables false
set_option linter.unusedSimpArgs false
namespace Go.Abs
section
variable {P : Program} {X : Ctx} {f : FuncId} {n : Nat} {β : Base} {R : Ending → World → Prop} {K : List Item} {env : Env}
end
end Go.Abs

set_option linter.unusedVariables false
set_option linter.unusedSimpArgs false
namespace Go.Abs

/-- What number gives, what it leaves, whether it went wrong. -/
def numVal : List UInt8 → Int
  | [] => 0
  | b :: s => match takeFirst b s with
    | none => 0
    | some (n, _) => if b.toNat / 64 % 2 = 1 then -(n : Int) else n
def numRest (s : List UInt8) : List UInt8 := match takeNum s with
  | some (_, r) => r
  | none => []
def numErr (s : List UInt8) : Int := match takeNum s with
  | some _ => 0
  | none => 1

structure RX where
  n : Nd
  s : List UInt8
  k : Int
  e : Int

def rdRowX (f : List UInt8 → Int → RX) : Nat → List UInt8 → Int → Int → List Nd × List UInt8 × Int × Int
  | 0, s, k, e => ([], s, k, e)
  | v + 1, s, k, e => if e ≠ 0 then ([], s, k, e) else
    ((f s k).n :: (rdRowX f v (f s k).s (f s k).k (f s k).e).1, (rdRowX f v (f s k).s (f s k).k (f s k).e).2)

def rdArgsX (f : List UInt8 → Int → RX) (kind p : Int) (s : List UInt8) (k : Int) : RX :=
  if numErr s ≠ 0 ∨ numVal s < 0 then ⟨.mk kind 0 p [] [], [], k, 1⟩ else
    ⟨.mk kind 0 p [] (rdRowX f (numVal s).toNat (numRest s) k 0).1, (rdRowX f (numVal s).toNat (numRest s) k 0).2.1, (rdRowX f (numVal s).toNat (numRest s) k 0).2.2.1, (rdRowX f (numVal s).toNat (numRest s) k 0).2.2.2⟩

def rdBodyX (f : List UInt8 → Int → RX) (c : Nat) (s : List UInt8) (k : Int) : RX :=
  if c = 0 then ⟨.mk 0 (numVal s) 0 [] [], numRest s, k, numErr s⟩
  else if c = 1 then (if numVal s < 0 ∨ numVal s > 200 ∨ numVal s > (numRest s).length then ⟨.mk 1 0 0 [] [], [], k, 1⟩ else ⟨.mk 1 0 0 ((numRest s).take (numVal s).toNat) [], (numRest s).drop (numVal s).toNat, k, numErr s⟩)
  else if c = 2 then (match s with
    | [] => ⟨.mk 2 0 0 [] [], [], k, 1⟩
    | p :: s2 => if primP p.toNat = true then rdArgsX f 2 p.toNat s2 k else ⟨.mk 2 0 p.toNat [] [], [], k, 1⟩)
  else if c = 3 then rdArgsX f 3 0 s k
  else ⟨.mk c 0 0 [] [], [], k, 1⟩

def rdX : Nat → List UInt8 → Int → RX
  | 0, _, k => ⟨nd0, [], k + 1, 4⟩
  | g + 1, s, k => if k + 1 > 300 then ⟨nd0, [], k + 1, 4⟩ else match s with
    | [] => ⟨nd0, [], k + 1, 1⟩
    | c :: s' => rdBodyX (rdX g) c.toNat s' (k + 1)

/-- What was read by the one is what was read by the other. -/
def Like (x : RX) : Rd Nd → Prop
  | .ok n r l => x = ⟨n, r, 300 - (l : Int), 0⟩ ∧ l ≤ 300
  | .no e => x.s = [] ∧ x.e = e ∧ e ≠ 0

end Go.Abs

set_option linter.unusedVariables false
set_option linter.unusedSimpArgs false
set_option maxRecDepth 100000
namespace Go.Proofs
open Go.Abs
attribute [local irreducible] AK AOps QCalls ECalls vNode vNodes vElts tHas vHas tGoodN tDecode bytesN vPar tGood tPack tPar tUnpack

set_option maxHeartbeats 0 in
theorem vParse_calls (t : Ty) (n : Nd) (ht : tySize t ≤ 8589934593) (hn : ndSize n ≤ 8589934593) : QCalls Tryd.prog Tryd.X 32 [encTy t, encNd n] (.tup [encVl (tPar t n).1, .int .i64 (tPar t n).2]) := by
  have h1 := Good_calls t ht
  have h2 := treeGood_calls n hn
  obtain ⟨T, ts⟩ := t
  obtain ⟨a1, a2, a3, a4, a5⟩ := n
  cases g1 : tGood (.mk T ts) with
  | false =>
    rw [g1] at h1
    rw [show tPar (.mk T ts) (.mk a1 a2 a3 a4 a5) = (vl0, 1) from by unfold tPar; rw [if_neg (by simp [g1])]]
    refine QCalls.of Tryd.func32 rfl (fun args w => Tryd.call32 args w) (Nat.le_of_ble_eq_true rfl) [(0, .c (encTy (.mk T ts))), (1, .c (encNd (.mk a1 a2 a3 a4 a5)))] rfl fun β hβ => ?_; have hf := Tryd.func32
    exact dq
  | true =>
  rw [g1] at h1
  by_cases g2 : tGoodN (.mk a1 a2 a3 a4 a5) = 0
  rotate_left
  · rw [show tPar (.mk T ts) (.mk a1 a2 a3 a4 a5) = (vl0, 1) from by unfold tPar; rw [if_neg (fun h => g2 h.2.1)]]
    have e1 : (tGoodN (.mk a1 a2 a3 a4 a5) != 0) = true := by simpa using g2
    generalize tGoodN (.mk a1 a2 a3 a4 a5) = z at h2 e1
    refine QCalls.of Tryd.func32 rfl (fun args w => Tryd.call32 args w) (Nat.le_of_ble_eq_true rfl) [(0, .c (encTy (.mk T ts))), (1, .c (encNd (.mk a1 a2 a3 a4 a5)))] rfl fun β hβ => ?_; have hf := Tryd.func32
    exact dq
  rw [g2] at h2
  have h3 := vparse_calls (.mk a1 a2 a3 a4 a5) (.mk T ts) (tGood_bad g1) hn ht
  have hsz := vPar_size (.mk a1 a2 a3 a4 a5) (.mk T ts)
  have h4 := has_calls (vPar (.mk a1 a2 a3 a4 a5) (.mk T ts)).1 (.mk T ts) (tGood_bad g1) (by omega) ht
  rcases hr : vPar (.mk a1 a2 a3 a4 a5) (.mk T ts) with ⟨⟨y1, y2, y3, y4, y5, y6, y7⟩, b⟩
  rw [hr] at h3 h4
  simp only at h3 h4
  cases b with
  | false =>
    rw [show tPar (.mk T ts) (.mk a1 a2 a3 a4 a5) = (vl0, 1) from by unfold tPar; rw [if_neg (by simp [hr])]]
    refine QCalls.of Tryd.func32 rfl (fun args w => Tryd.call32 args w) (Nat.le_of_ble_eq_true rfl) [(0, .c (encTy (.mk T ts))), (1, .c (encNd (.mk a1 a2 a3 a4 a5)))] rfl fun β hβ => ?_; have hf := Tryd.func32
    exact dq
  | true =>
    cases g4 : vHas (.mk y1 y2 y3 y4 y5 y6 y7) (.mk T ts) with
    | false =>
      rw [g4] at h4
      rw [show tPar (.mk T ts) (.mk a1 a2 a3 a4 a5) = (vl0, 1) from by unfold tPar; rw [if_neg (by simp [hr, g4])]]
      refine QCalls.of Tryd.func32 rfl (fun args w => Tryd.call32 args w) (Nat.le_of_ble_eq_true rfl) [(0, .c (encTy (.mk T ts))), (1, .c (encNd (.mk a1 a2 a3 a4 a5)))] rfl fun β hβ => ?_; have hf := Tryd.func32
      exact dq
    | true =>
      rw [g4] at h4
      rw [show tPar (.mk T ts) (.mk a1 a2 a3 a4 a5) = (.mk y1 y2 y3 y4 y5 y6 y7, 0) from by unfold tPar; rw [hr, if_pos ⟨g1, g2, rfl, g4⟩]]
      refine QCalls.of Tryd.func32 rfl (fun args w => Tryd.call32 args w) (Nat.le_of_ble_eq_true rfl) [(0, .c (encTy (.mk T ts))), (1, .c (encNd (.mk a1 a2 a3 a4 a5)))] rfl fun β hβ => ?_; have hf := Tryd.func32
      exact dq

/-- What CutPrefix of one byte answers. -/
def cut5 : List UInt8 → List UInt8 × Bool
  | [] => ([], false)
  | c :: r => if c = 5 then (r, true) else (c :: r, false)
end Go.Proofs

-- WK
set_option linter.unusedVariables false
set_option linter.unusedSimpArgs false
namespace Go.Proofs
open Go.Abs

theorem encCR_form (r : CR) : ∃ x y e, encCR r = .tup [.agg [x, y], .int .i64 e] ∧ x.one = true ∧ y.one = true := by
  unfold encCR
  split
  · exact ⟨_, _, _, rfl, rfl, rfl⟩
  · exact ⟨_, _, _, rfl, rfl, rfl⟩
attribute [local irreducible] AK AOps QCalls ECalls GCalls tParse tComp tCopy tPack tStore tGood tGoodN cRow cStep cCodes nMints tPar cMove cShaping cItems cControl cNumbers cData cWorld cFits encCR

set_option maxHeartbeats 0 in
theorem cinstr_calls (P nN : Int) (nS : List UInt8) (args : List Nd) (types s : List Ty) (hP : 40 ≤ P) (hf : cFits P args = some types) (hs : sOk s) (hl : s.length ≤ 9999999990) (hsz : ndsSize args ≤ 8589934593)
    (hrow : ∀ a ∈ args, ∀ s' : List Ty, sOk s' → s'.length ≤ s.length + 1 → QCalls Tryd.prog Tryd.X 12 [.sl 5 (encNds (ndArgs a)), .sl 2 (encTys s')] (encCX (cRow (ndArgs a) (s', false)))) :
    QCalls Tryd.prog Tryd.X 26 [encNd (.mk 2 nN P nS args), .sl 2 (encTys types), .sl 2 (encTys s)] (encCR (cInstr P args (cCodes args) types s)) := by
  unfold cInstr
  by_cases p1 : P ≤ 44
  · rw [if_pos p1]
    have e1 : decide (P ≤ 44) = true := decide_eq_true p1
    have hq := cmove_calls P nN nS args types s ⟨hP, p1⟩ hf hs hl
    obtain ⟨x, y, e, hx, o1, o2⟩ := encCR_form (cMove P args s)
    rw [hx] at hq ⊢
    refine QCalls.of Tryd.func26 rfl (fun args w => Tryd.call26 args w) (Nat.le_of_ble_eq_true rfl) [(0, .c (encNd (.mk 2 nN P nS args))), (1, .c (.sl 2 (encTys types))), (2, .c (.sl 2 (encTys s)))] rfl fun β hβ => ?_; have hf := Tryd.func26
    repeat' (first | refine st ?_ | (refine AK.condS rfl (fun h => ?_) (fun h => ?_) <;> first | (cases h; done) | rw [h] | skip) | refine uW hf rfl rfl ?_ | refine uC rfl hq ?_ | ((first | refine AOps.splitT rfl rfl rfl asm (fun h => ?_) | refine AOps.splitF rfl rfl rfl asm (fun h => ?_) | refine AOps.split rfl rfl rfl (fun h => ?_) (fun h => ?_)) <;> (fail_if_success (cases h; done)) <;> rw [h]))
    all_goals exact Wk.refl _
  rw [if_neg p1]
  have e1 : decide (P ≤ 44) = false := decide_eq_false p1
  by_cases p2 : P = 45
  · subst p2
    rw [if_pos rfl]
    obtain ⟨x0, y0, t, rfl, rfl, ht⟩ := cFits_tv hf rfl
    clear hf hrow
    have ht2 := ht.2
    have hp1 := vParse_calls t y0 (by omega) (by simp only [ndsSize] at hsz; omega)
    have hp2 := Packed_calls t (by omega)
    rw [show [t].getD 0 ty0 = t from rfl, show [x0, y0].getD 1 nd0 = y0 from rfl]
    obtain ⟨V, ws⟩ := t
    obtain ⟨y1, y2, y3, y4, y5⟩ := y0
    rcases hr : tPar (.mk V ws) (.mk y1 y2 y3 y4 y5) with ⟨⟨v1, v2, v3, v4, v5, v6, v7⟩, e⟩
    rw [hr] at hp1
    simp only at hp1 ⊢
    by_cases he : e = 0
    rotate_left
    · rw [if_neg (fun h => he h.1), encCR_bad (by decide)]
      have e2 : (e != 0) = true := by simpa using he
      refine QCalls.of Tryd.func26 rfl (fun args w => Tryd.call26 args w) (Nat.le_of_ble_eq_true rfl) [(0, .c (encNd (.mk 2 nN 45 nS [x0, .mk y1 y2 y3 y4 y5]))), (1, .c (.sl 2 (encTys [.mk V ws]))), (2, .c (.sl 2 (encTys s)))] rfl fun β hβ => ?_; have hf := Tryd.func26
      repeat' (first | refine st ?_ | (refine AK.condS rfl (fun h => ?_) (fun h => ?_) <;> first | (cases h; done) | rw [h] | skip) | refine uW hf rfl rfl ?_ | refine uC rfl hp1 ?_ | refine uC rfl hp2 ?_ | refine uI rfl (0) rfl (rfl) rfl ?_ | refine uI rfl (1) rfl (rfl) rfl ?_ | ((first | refine AOps.splitT rfl rfl rfl asm (fun h => ?_) | refine AOps.splitF rfl rfl rfl asm (fun h => ?_) | refine AOps.split rfl rfl rfl (fun h => ?_) (fun h => ?_)) <;> (fail_if_success (cases h; done)) <;> rw [h]))
      all_goals first | exact Wk.refl _ | exact wk_bad rfl rfl
    subst he
    cases hpk : tPack (.mk V ws) with
    | false =>
      rw [hpk] at hp2
      rw [if_neg (fun h => by simp at h), encCR_bad (by decide)]
      refine QCalls.of Tryd.func26 rfl (fun args w => Tryd.call26 args w) (Nat.le_of_ble_eq_true rfl) [(0, .c (encNd (.mk 2 nN 45 nS [x0, .mk y1 y2 y3 y4 y5]))), (1, .c (.sl 2 (encTys [.mk V ws]))), (2, .c (.sl 2 (encTys s)))] rfl fun β hβ => ?_; have hf := Tryd.func26
      repeat' (first | refine st ?_ | (refine AK.condS rfl (fun h => ?_) (fun h => ?_) <;> first | (cases h; done) | rw [h] | skip) | refine uW hf rfl rfl ?_ | refine uC rfl hp1 ?_ | refine uC rfl hp2 ?_ | refine uI rfl (0) rfl (rfl) rfl ?_ | refine uI rfl (1) rfl (rfl) rfl ?_ | ((first | refine AOps.splitT rfl rfl rfl asm (fun h => ?_) | refine AOps.splitF rfl rfl rfl asm (fun h => ?_) | refine AOps.split rfl rfl rfl (fun h => ?_) (fun h => ?_)) <;> (fail_if_success (cases h; done)) <;> rw [h]))
      all_goals first | exact Wk.refl _ | exact wk_bad rfl rfl
    | true =>
      rw [hpk] at hp2
      have hp := cput_calls s [.mk V ws]
      rw [encCR_ok'] at hp
      rw [if_pos ⟨rfl, rfl⟩, encCR_ok']
      refine QCalls.of Tryd.func26 rfl (fun args w => Tryd.call26 args w) (Nat.le_of_ble_eq_true rfl) [(0, .c (encNd (.mk 2 nN 45 nS [x0, .mk y1 y2 y3 y4 y5]))), (1, .c (.sl 2 (encTys [.mk V ws]))), (2, .c (.sl 2 (encTys s)))] rfl fun β hβ => ?_; have hf := Tryd.func26
      repeat' (first | refine st ?_ | (refine AK.condS rfl (fun h => ?_) (fun h => ?_) <;> first | (cases h; done) | rw [h] | skip) | refine uW hf rfl rfl ?_ | refine uC rfl hp1 ?_ | refine uC rfl hp2 ?_ | refine uC rfl hp ?_ | refine uI rfl (0) rfl (rfl) rfl ?_ | refine uI rfl (1) rfl (rfl) rfl ?_ | ((first | refine AOps.splitT rfl rfl rfl asm (fun h => ?_) | refine AOps.splitF rfl rfl rfl asm (fun h => ?_) | refine AOps.split rfl rfl rfl (fun h => ?_) (fun h => ?_)) <;> (fail_if_success (cases h; done)) <;> rw [h]))
      all_goals first | exact Wk.refl _ | exact wk_bad rfl rfl
  rw [if_neg p2]
  have e2 : (P == 45) = false := by simpa using p2
  by_cases p3 : P ≤ 58
  · rw [if_pos p3]
    have e3 : decide (P ≤ 58) = true := decide_eq_true p3
    have hq := cshaping_calls P nN nS args types s ⟨by omega, p3⟩ hf hs hl hsz hrow
    obtain ⟨x, y, e, hx, o1, o2⟩ := encCR_form (cShaping P (cCodes args) types s)
    rw [hx] at hq ⊢
    refine QCalls.of Tryd.func26 rfl (fun args w => Tryd.call26 args w) (Nat.le_of_ble_eq_true rfl) [(0, .c (encNd (.mk 2 nN P nS args))), (1, .c (.sl 2 (encTys types))), (2, .c (.sl 2 (encTys s)))] rfl fun β hβ => ?_; have hf := Tryd.func26
    repeat' (first | refine st ?_ | (refine AK.condS rfl (fun h => ?_) (fun h => ?_) <;> first | (cases h; done) | rw [h] | skip) | refine uW hf rfl rfl ?_ | refine uC rfl hq ?_ | ((first | refine AOps.splitT rfl rfl rfl asm (fun h => ?_) | refine AOps.splitF rfl rfl rfl asm (fun h => ?_) | refine AOps.split rfl rfl rfl (fun h => ?_) (fun h => ?_)) <;> (fail_if_success (cases h; done)) <;> rw [h]))
    all_goals exact Wk.refl _
  rw [if_neg p3]
  have e3 : decide (P ≤ 58) = false := decide_eq_false p3
  by_cases p4 : P ≤ 63
  · rw [if_pos p4]
    have e4 : decide (P ≤ 63) = true := decide_eq_true p4
    have hq := citems_calls P nN nS args types s ⟨by omega, p4⟩ hf hs hl hsz hrow
    obtain ⟨x, y, e, hx, o1, o2⟩ := encCR_form (cItems P (cCodes args) types s)
    rw [hx] at hq ⊢
    refine QCalls.of Tryd.func26 rfl (fun args w => Tryd.call26 args w) (Nat.le_of_ble_eq_true rfl) [(0, .c (encNd (.mk 2 nN P nS args))), (1, .c (.sl 2 (encTys types))), (2, .c (.sl 2 (encTys s)))] rfl fun β hβ => ?_; have hf := Tryd.func26
    repeat' (first | refine st ?_ | (refine AK.condS rfl (fun h => ?_) (fun h => ?_) <;> first | (cases h; done) | rw [h] | skip) | refine uW hf rfl rfl ?_ | refine uC rfl hq ?_ | ((first | refine AOps.splitT rfl rfl rfl asm (fun h => ?_) | refine AOps.splitF rfl rfl rfl asm (fun h => ?_) | refine AOps.split rfl rfl rfl (fun h => ?_) (fun h => ?_)) <;> (fail_if_success (cases h; done)) <;> rw [h]))
    all_goals exact Wk.refl _
  rw [if_neg p4]
  have e4 : decide (P ≤ 63) = false := decide_eq_false p4
  by_cases p5 : P ≤ 68
  · rw [if_pos p5]
    have e5 : decide (P ≤ 68) = true := decide_eq_true p5
    have hq := ccontrol_calls P nN nS args types s ⟨by omega, p5⟩ hf hs hl hsz hrow
    obtain ⟨x, y, e, hx, o1, o2⟩ := encCR_form (cControl P args (cCodes args) types s)
    rw [hx] at hq ⊢
    refine QCalls.of Tryd.func26 rfl (fun args w => Tryd.call26 args w) (Nat.le_of_ble_eq_true rfl) [(0, .c (encNd (.mk 2 nN P nS args))), (1, .c (.sl 2 (encTys types))), (2, .c (.sl 2 (encTys s)))] rfl fun β hβ => ?_; have hf := Tryd.func26
    repeat' (first | refine st ?_ | (refine AK.condS rfl (fun h => ?_) (fun h => ?_) <;> first | (cases h; done) | rw [h] | skip) | refine uW hf rfl rfl ?_ | refine uC rfl hq ?_ | ((first | refine AOps.splitT rfl rfl rfl asm (fun h => ?_) | refine AOps.splitF rfl rfl rfl asm (fun h => ?_) | refine AOps.split rfl rfl rfl (fun h => ?_) (fun h => ?_)) <;> (fail_if_success (cases h; done)) <;> rw [h]))
    all_goals exact Wk.refl _
  rw [if_neg p5]
  have e5 : decide (P ≤ 68) = false := decide_eq_false p5
  by_cases p6 : P ≤ 72 ∨ P ≥ 93
  · rw [if_pos p6]
    have hq := cnumbers_calls P s (by omega) hl
    obtain ⟨x, y, e, hx, o1, o2⟩ := encCR_form (cNumbers P s)
    rw [hx] at hq ⊢
    by_cases p7 : P ≤ 72
    · have e6 : decide (P ≤ 72) = true := decide_eq_true p7
      refine QCalls.of Tryd.func26 rfl (fun args w => Tryd.call26 args w) (Nat.le_of_ble_eq_true rfl) [(0, .c (encNd (.mk 2 nN P nS args))), (1, .c (.sl 2 (encTys types))), (2, .c (.sl 2 (encTys s)))] rfl fun β hβ => ?_; have hf := Tryd.func26
      repeat' (first | refine st ?_ | (refine AK.condS rfl (fun h => ?_) (fun h => ?_) <;> first | (cases h; done) | rw [h] | skip) | refine uW hf rfl rfl ?_ | refine uC rfl hq ?_ | ((first | refine AOps.splitT rfl rfl rfl asm (fun h => ?_) | refine AOps.splitF rfl rfl rfl asm (fun h => ?_) | refine AOps.split rfl rfl rfl (fun h => ?_) (fun h => ?_)) <;> (fail_if_success (cases h; done)) <;> rw [h]))
      all_goals exact Wk.refl _
    · have e6 : decide (P ≤ 72) = false := decide_eq_false p7
      have e7 : decide (P ≥ 93) = true := decide_eq_true (by omega)
      refine QCalls.of Tryd.func26 rfl (fun args w => Tryd.call26 args w) (Nat.le_of_ble_eq_true rfl) [(0, .c (encNd (.mk 2 nN P nS args))), (1, .c (.sl 2 (encTys types))), (2, .c (.sl 2 (encTys s)))] rfl fun β hβ => ?_; have hf := Tryd.func26
      repeat' (first | refine st ?_ | (refine AK.condS rfl (fun h => ?_) (fun h => ?_) <;> first | (cases h; done) | rw [h] | skip) | refine uW hf rfl rfl ?_ | refine uC rfl hq ?_ | ((first | refine AOps.splitT rfl rfl rfl asm (fun h => ?_) | refine AOps.splitF rfl rfl rfl asm (fun h => ?_) | refine AOps.split rfl rfl rfl (fun h => ?_) (fun h => ?_)) <;> (fail_if_success (cases h; done)) <;> rw [h]))
      all_goals exact Wk.refl _
  rw [if_neg p6]
  have e6 : decide (P ≤ 72) = false := decide_eq_false (by omega)
  have e7 : decide (P ≥ 93) = false := decide_eq_false (by omega)
  by_cases p8 : P ≤ 83
  · rw [if_pos p8]
    have e8 : decide (P ≤ 83) = true := decide_eq_true p8
    have hq := cdata_calls P args types s ⟨by omega, p8⟩ hf hs hl
    obtain ⟨x, y, e, hx, o1, o2⟩ := encCR_form (cData P types s)
    rw [hx] at hq ⊢
    refine QCalls.of Tryd.func26 rfl (fun args w => Tryd.call26 args w) (Nat.le_of_ble_eq_true rfl) [(0, .c (encNd (.mk 2 nN P nS args))), (1, .c (.sl 2 (encTys types))), (2, .c (.sl 2 (encTys s)))] rfl fun β hβ => ?_; have hf := Tryd.func26
    repeat' (first | refine st ?_ | (refine AK.condS rfl (fun h => ?_) (fun h => ?_) <;> first | (cases h; done) | rw [h] | skip) | refine uW hf rfl rfl ?_ | refine uC rfl hq ?_ | ((first | refine AOps.splitT rfl rfl rfl asm (fun h => ?_) | refine AOps.splitF rfl rfl rfl asm (fun h => ?_) | refine AOps.split rfl rfl rfl (fun h => ?_) (fun h => ?_)) <;> (fail_if_success (cases h; done)) <;> rw [h]))
    all_goals exact Wk.refl _
  · rw [if_neg p8]
    have e8 : decide (P ≤ 83) = false := decide_eq_false p8
    have hq := cworld_calls P args types s ⟨by omega, by omega⟩ hf hs hl
    obtain ⟨x, y, e, hx, o1, o2⟩ := encCR_form (cWorld P types s)
    rw [hx] at hq ⊢
    refine QCalls.of Tryd.func26 rfl (fun args w => Tryd.call26 args w) (Nat.le_of_ble_eq_true rfl) [(0, .c (encNd (.mk 2 nN P nS args))), (1, .c (.sl 2 (encTys types))), (2, .c (.sl 2 (encTys s)))] rfl fun β hβ => ?_; have hf := Tryd.func26
    repeat' (first | refine st ?_ | (refine AK.condS rfl (fun h => ?_) (fun h => ?_) <;> first | (cases h; done) | rw [h] | skip) | refine uW hf rfl rfl ?_ | refine uC rfl hq ?_ | ((first | refine AOps.splitT rfl rfl rfl asm (fun h => ?_) | refine AOps.splitF rfl rfl rfl asm (fun h => ?_) | refine AOps.split rfl rfl rfl (fun h => ?_) (fun h => ?_)) <;> (fail_if_success (cases h; done)) <;> rw [h]))
    all_goals exact Wk.refl _

set_option maxHeartbeats 0 in
theorem cstep_calls (n : Nd) (s : List Ty) (hs : sOk s) (hl : s.length ≤ 9999999990) (hsz : ndSize n ≤ 8589934593)
    (hown : QCalls Tryd.prog Tryd.X 12 [.sl 5 (encNds (ndArgs n)), .sl 2 (encTys s)] (encCX (cRow (ndArgs n) (s, false))))
    (hrow : ∀ a ∈ ndArgs n, ∀ s' : List Ty, sOk s' → s'.length ≤ s.length + 1 → QCalls Tryd.prog Tryd.X 12 [.sl 5 (encNds (ndArgs a)), .sl 2 (encTys s')] (encCX (cRow (ndArgs a) (s', false)))) :
    QCalls Tryd.prog Tryd.X 20 [encNd n, .sl 2 (encTys s)] (encCR (cStep n s)) := by
  obtain ⟨kind, N, P, S, args⟩ := n
  simp only [ndArgs] at hown hrow
  simp only [ndSize] at hsz
  by_cases k3 : kind = 3
  · subst k3
    rw [show cStep (.mk 3 N P S args) s = cRow args (s, false) from by simp only [cStep, if_true]]
    generalize cRow args (s, false) = r at hown
    obtain ⟨⟨t, b⟩, e⟩ := r
    clear hrow
    refine QCalls.of Tryd.func20 rfl (fun args w => Tryd.call20 args w) (Nat.le_of_ble_eq_true rfl) [(0, .c (encNd (.mk 3 N P S args))), (1, .c (.sl 2 (encTys s)))] rfl fun β hβ => ?_; have hf := Tryd.func20
    repeat' (first | refine st ?_ | (refine AK.condS rfl (fun h => ?_) (fun h => ?_) <;> first | (cases h; done) | rw [h] | skip) | refine uW hf rfl rfl ?_ | refine uC rfl hown ?_)
    all_goals exact wk_X
  have e3 : (kind == 3) = false := by simpa using k3
  by_cases k2 : kind = 2
  rotate_left
  · have e2 : (kind != 2) = true := by simpa using k2
    rw [show cStep (.mk kind N P S args) s = cBad 1 from by simp only [cStep, if_neg k3, if_pos k2], encCR_bad (by decide)]
    clear hown hrow
    refine QCalls.of Tryd.func20 rfl (fun args w => Tryd.call20 args w) (Nat.le_of_ble_eq_true rfl) [(0, .c (encNd (.mk kind N P S args))), (1, .c (.sl 2 (encTys s)))] rfl fun β hβ => ?_; have hf := Tryd.func20
    repeat' (first | refine st ?_ | (refine AK.condS rfl (fun h => ?_) (fun h => ?_) <;> first | (cases h; done) | rw [h] | skip) | refine uW hf rfl rfl ?_)
    all_goals first | exact Wk.refl _ | exact wk_bad rfl rfl
  subst k2
  have hfit := cfits_calls 2 N P S args (by omega)
  cases hf : cFits P args with
  | none =>
    rw [show cStep (.mk 2 N P S args) s = cBad 1 from by simp only [cStep, hf]; rfl, encCR_bad (by decide)]
    rw [hf] at hfit
    clear hown hrow
    refine QCalls.of Tryd.func20 rfl (fun args w => Tryd.call20 args w) (Nat.le_of_ble_eq_true rfl) [(0, .c (encNd (.mk 2 N P S args))), (1, .c (.sl 2 (encTys s)))] rfl fun β hβ => ?_; have hf := Tryd.func20
    repeat' (first | refine st ?_ | (refine AK.condS rfl (fun h => ?_) (fun h => ?_) <;> first | (cases h; done) | rw [h] | skip) | refine uW hf rfl rfl ?_ | refine uC rfl hfit ?_)
    all_goals first | exact Wk.refl _ | exact wk_bad rfl rfl
  | some types =>
    have hP : 40 ≤ P := by
      unfold cFits at hf
      split at hf
      · cases hf
      · omega
    rw [show cStep (.mk 2 N P S args) s = cInstr P args (cCodes args) types s from by simp only [cStep, hf]; rfl]
    have hq := cinstr_calls P N S args types s hP hf hs hl (by omega) hrow
    rw [hf] at hfit
    obtain ⟨x, y, e, hx, o1, o2⟩ := encCR_form (cInstr P args (cCodes args) types s)
    rw [hx] at hq ⊢
    clear hown hrow
    refine QCalls.of Tryd.func20 rfl (fun args w => Tryd.call20 args w) (Nat.le_of_ble_eq_true rfl) [(0, .c (encNd (.mk 2 N P S args))), (1, .c (.sl 2 (encTys s)))] rfl fun β hβ => ?_; have hf := Tryd.func20
    repeat' (first | refine st ?_ | (refine AK.condS rfl (fun h => ?_) (fun h => ?_) <;> first | (cases h; done) | rw [h] | skip) | refine uW hf rfl rfl ?_ | refine uC rfl hfit ?_ | refine uC rfl hq ?_)
    all_goals exact Wk.refl _
end Go.Proofs

-- WK
set_option linter.unusedVariables false
set_option linter.unusedSimpArgs false
namespace Go.Proofs
open Go.Abs

theorem encCR_ne {t : List Ty} {f : Bool} {e : Int} (h : e ≠ 0) : encCR ((t, f), e) = .tup [.agg [.any, .any], .int .i64 e] := by unfold encCR; rw [if_neg h]
theorem ndArgs_size (n : Nd) : ndsSize (ndArgs n) + 1 ≤ ndSize n := by cases n; simp only [ndArgs, ndSize]; omega
theorem ndArgs_lt (n : Nd) : SizeOf.sizeOf (ndArgs n) < SizeOf.sizeOf n := by cases n; simp only [ndArgs, Nd.mk.sizeOf_spec]; omega
theorem cRow_c1 (x : Nd) (l : List Nd) (o : List Ty) : cRow (x :: l) (o, true) = cBad 1 := by simp only [cRow, if_true]
theorem cRow_c0 (x : Nd) (l : List Nd) (o : List Ty) : cRow (x :: l) (o, false) = if (cLook (cStep x o)).2 ≠ 0 then cBad (cLook (cStep x o)).2 else cRow l (cLook (cStep x o)).1 := by
  simp only [cRow]; rfl
theorem cRow_n (o : List Ty × Bool) : cRow [] o = (o, 0) := by simp only [cRow]
theorem cLook_e {t : List Ty} {f : Bool} {e : Int} (h : e ≠ 0) : cLook ((t, f), e) = cBad e := by unfold cLook; rw [if_pos h]
theorem cLook_7 {t : List Ty} {f : Bool} (h : 40 < t.length) : cLook ((t, f), 0) = cBad 7 := by unfold cLook; rw [if_neg (by simp), if_pos h]
theorem cLook_4 {t : List Ty} {f : Bool} (h : ¬ 40 < t.length) (hg : t.all tGood = false) : cLook ((t, f), 0) = cBad 4 := by unfold cLook; rw [if_neg (by simp), if_neg h, if_neg (by rw [hg]; decide)]
theorem cLook_0 {t : List Ty} {f : Bool} (h : ¬ 40 < t.length) (hg : t.all tGood = true) : cLook ((t, f), 0) = ((t, f), 0) := by unfold cLook; rw [if_neg (by simp), if_neg h, if_pos hg]
attribute [local irreducible] AK AOps QCalls ECalls GCalls tParse tGood tGoodN cRow cStep encCR

set_option maxHeartbeats 0 in
theorem crow_calls : ∀ (l : List Nd) (s : List Ty) (B : Nat), sOk s → s.length ≤ B → 40 ≤ B → B + ndsSize l ≤ 9000000000 → ndsSize l ≤ 8589934593 →
    QCalls Tryd.prog Tryd.X 12 [.sl 5 (encNds l), .sl 2 (encTys s)] (encCX (cRow l (s, false)))
  | l, s, B, hs, hB, h40, hBl, hl => by
    have hrec : ∀ x ∈ l, ∀ o : List Ty, sOk o → o.length ≤ B → QCalls Tryd.prog Tryd.X 20 [encNd x, .sl 2 (encTys o)] (encCR (cStep x o)) := by
      intro x hx o ho hol
      have hxs := ndsSize_mem hx
      have hxa := ndArgs_size x
      refine cstep_calls x o ho (by omega) (by omega) (crow_calls (ndArgs x) o B ho hol h40 (by omega) (by omega)) (fun a ha s' hs' hl' => ?_)
      have has := ndsSize_mem ha
      have haa := ndArgs_size a
      exact crow_calls (ndArgs a) s' (B + 1) hs' (by omega) (by omega) (by omega) (by omega)
    have hal := ndsSize_len l
    refine QCalls.of Tryd.func12 rfl (fun args w => Tryd.call12 args w) (Nat.le_of_ble_eq_true rfl) [(0, .c (.sl 5 (encNds l))), (1, .c (.sl 2 (encTys s)))] rfl fun β hβ => ?_; have hf := Tryd.func12
    repeat' (first | refine st ?_ | (refine AK.condS rfl (fun h => ?_) (fun h => ?_) <;> first | (cases h; done) | rw [h] | skip) | refine uW hf rfl rfl ?_)
    refine AK.loopE (α := Nat × (List Ty × Bool)) (fun z => z.1 ≤ l.length ∧ sOk z.2.1 ∧ z.2.1.length ≤ B ∧ cRow l (s, false) = cRow (l.drop z.1) z.2) (fun z => l.length - z.1)
      (fun z => [(16, .c (.int .i64 z.1)), (15, .c (.int .i64 (encNds l).length)), (14, .c (.sl 5 (encNds l))), (6, .ptr 6 0), (4, .ptr 4 0)])
      (fun z => [(6, [.c (.sl 2 (encTys z.2.1)), .c (.bool z.2.2)]), (4, [.own .exact 2 [], .c (.bool false)])]) (fun _ => []) [6, 4] (0, (s, false))
      ⟨by omega, hs, hB, rfl⟩ ⟨.inl rfl, .inl rfl, .inl rfl, .inl rfl, .inl rfl, trivial⟩ ⟨rfl, rfl, trivial⟩ trivial rfl rfl rfl ?_
    rintro ⟨i, ⟨o, b⟩⟩ ⟨hi, ho, hol, hinv⟩ ih
    simp only at hi ho hol hinv
    rcases get_or l i hi with ⟨x, hx, hm⟩ | he
    · have hc := nds_lt hx
      have h2 := lt_of_get hx
      rw [drop_at hx] at hinv
      cases b with
      | true =>
        rw [cRow_c1] at hinv
        rw [hinv, encCX_bad]
        clear ih hrec hinv
        obtain ⟨k1, k2, k3, k4, k5⟩ := x
        repeat' (first | refine st ?_ | (refine AK.condS rfl (fun h => ?_) (fun h => ?_) <;> first | (cases h; done) | rw [h] | skip) | refine uW hf rfl rfl ?_ | refine uI rfl (i) rfl (nds_at hx) rfl ?_)
        all_goals first | exact Wk.refl _ | exact wk_nil2
      | false =>
        rw [cRow_c0] at hinv
        have hq := hrec x hm o ho hol
        have hsm := Sm_step x o ho
        clear hrec
        generalize cStep x o = r at hq hsm hinv
        obtain ⟨⟨t', f'⟩, e⟩ := r
        obtain ⟨k1, k2, k3, k4, k5⟩ := x
        by_cases he : e = 0
        rotate_left
        · rw [cLook_e he, if_pos (show (cBad e).2 ≠ 0 from he)] at hinv
          rw [encCR_ne he] at hq
          rw [hinv, encCX_bad]
          have e1 : (e != 0) = true := by simpa using he
          clear ih hinv
          repeat' (first | refine st ?_ | (refine AK.condS rfl (fun h => ?_) (fun h => ?_) <;> first | (cases h; done) | rw [h] | skip) | refine uW hf rfl rfl ?_ | refine uI rfl (i) rfl (nds_at hx) rfl ?_ | refine uC rfl hq ?_)
          all_goals first | exact Wk.refl _ | exact wk_nil2
        subst he
        rw [encCR_ok] at hq
        have z1 := encTys_length t'
        by_cases hlen : 40 < t'.length
        · rw [cLook_7 hlen, if_pos (show (cBad 7).2 ≠ 0 from by decide)] at hinv
          rw [hinv, encCX_bad]
          have e1 : decide ((((encTys t').length : Nat) : Int) > 40) = true := decide_eq_true (by omega)
          clear ih hinv
          repeat' (first | refine st ?_ | (refine AK.condS rfl (fun h => ?_) (fun h => ?_) <;> first | (cases h; done) | rw [h] | skip) | refine uW hf rfl rfl ?_ | refine uI rfl (i) rfl (nds_at hx) rfl ?_ | refine uC rfl hq ?_)
          all_goals first | exact Wk.refl _ | exact wk_nil2
        have e1 : decide ((((encTys t').length : Nat) : Int) > 40) = false := decide_eq_false (by omega)
        repeat' (first | refine st ?_ | (refine AK.condS rfl (fun h => ?_) (fun h => ?_) <;> first | (cases h; done) | rw [h] | skip) | refine uW hf rfl rfl ?_ | refine uI rfl (i) rfl (nds_at hx) rfl ?_ | refine uC rfl hq ?_)
        refine AK.loopE (α := Nat) (fun j => j ≤ t'.length ∧ t'.all tGood = (t'.drop j).all tGood) (fun j => t'.length - j)
          (fun j => [(42, .c (.int .i64 j)), (41, .c (.int .i64 (encTys t').length)), (40, .c (.sl 2 (encTys t'))), (16, .c (.int .i64 i)), (15, .c (.int .i64 (encNds l).length)), (14, .c (.sl 5 (encNds l))), (6, .ptr 6 0), (4, .ptr 4 0)])
          (fun j => [(6, [.c (.sl 2 (encTys t')), .c (.bool f')]), (4, [.own .exact 2 [], .c (.bool false)])]) (fun _ => []) [6, 4] 0
          ⟨by omega, rfl⟩ ⟨.inl rfl, .inl rfl, .inl rfl, .inl rfl, .inl rfl, .inl rfl, .inl rfl, .inl rfl, trivial⟩ ⟨rfl, rfl, trivial⟩ trivial rfl rfl rfl ?_
        rintro j ⟨hj, hjv⟩ jh
        rcases get_or t' j hj with ⟨y, hy, hym⟩ | hje
        · have hcj := tys_lt hy
          have hj2 := lt_of_get hy
          have hys : tySize y ≤ 2000 := hsm y hym
          have hg := Good_calls y (by omega)
          rw [drop_at hy, List.all_cons] at hjv
          obtain ⟨U, us⟩ := y
          cases hgy : tGood (.mk U us) with
          | false =>
            rw [hgy] at hg hjv
            rw [Bool.false_and] at hjv
            rw [cLook_4 hlen hjv, if_pos (show (cBad 4).2 ≠ 0 from by decide)] at hinv
            rw [hinv, encCX_bad]
            clear ih jh hinv
            repeat' (first | refine st ?_ | (refine AK.condS rfl (fun h => ?_) (fun h => ?_) <;> first | (cases h; done) | rw [h] | skip) | refine uW hf rfl rfl ?_ | refine uI rfl (j) rfl (tys_at hy) rfl ?_ | refine uC rfl hg ?_)
            all_goals first | exact Wk.refl _ | exact wk_nil2
          | true =>
            rw [hgy] at hg hjv
            rw [Bool.true_and] at hjv
            repeat' (first | refine st ?_ | (refine AK.condS rfl (fun h => ?_) (fun h => ?_) <;> first | (cases h; done) | rw [h] | skip) | refine uW hf rfl rfl ?_ | refine uI rfl (j) rfl (tys_at hy) rfl ?_ | refine uC rfl hg ?_)
            exact AK.again (jh (j + 1) ⟨hj2, hjv⟩ (by omega)) ⟨.inl (succ64 (i := j) (by omega)), .inl rfl, .inl rfl, .inl rfl, .inl rfl, .inl rfl, .inl rfl, .inl rfl, trivial⟩ ⟨rfl, rfl, trivial⟩ trivial rfl rfl rfl
        · have hcj := tys_end hje
          have hall : t'.all tGood = true := by rw [hjv, hje, List.drop_length]; rfl
          rw [cLook_0 hlen hall, if_neg (by simp)] at hinv
          clear jh
          repeat' (first | refine st ?_ | (refine AK.condS rfl (fun h => ?_) (fun h => ?_) <;> first | (cases h; done) | rw [h] | skip) | refine uW hf rfl rfl ?_)
          exact AK.again (ih (i + 1, (t', f')) ⟨h2, sOk_good hall, by show t'.length ≤ B; omega, hinv⟩ (by show l.length - (i + 1) < l.length - i; omega)) ⟨.inl (succ64 (i := i) (by omega)), .inl rfl, .inl rfl, .inl rfl, .inl rfl, trivial⟩ ⟨rfl, rfl, trivial⟩ trivial rfl rfl rfl
    · have hc := nds_end he
      have h0 : cRow l (s, false) = ((o, b), 0) := by rw [hinv, he, List.drop_length, cRow_n]
      rw [h0]
      clear ih hinv hrec
      repeat' (first | refine st ?_ | (refine AK.condS rfl (fun h => ?_) (fun h => ?_) <;> first | (cases h; done) | rw [h] | skip) | refine uW hf rfl rfl ?_)
      all_goals exact Wk.refl _
termination_by l => SizeOf.sizeOf l
decreasing_by
  all_goals
    have h1 := List.sizeOf_lt_of_mem hx
    have h2 := ndArgs_lt x
    first
      | omega
      | (have h3 := List.sizeOf_lt_of_mem ha
         have h4 := ndArgs_lt a
         omega)

set_option maxHeartbeats 0 in
theorem Code_calls (n : Nd) (s : List Ty) (hn : ndSize n ≤ 8589934593) (hs : tysSize s ≤ 8589934593) : QCalls Tryd.prog Tryd.X 4 [encNd n, .sl 2 (encTys s)] (encCX (cTop n s)) := by
  have h1 := treeGood_calls n hn
  have zl := tysSize_len s
  have z1 := encTys_length s
  unfold cTop
  by_cases hg : tGoodN n ≠ 0
  · rw [if_pos hg, encCX_bad]
    have e1 : (tGoodN n != 0) = true := by simpa using hg
    generalize tGoodN n = z at h1 e1
    obtain ⟨k1, k2, k3, k4, k5⟩ := n
    refine QCalls.of Tryd.func4 rfl (fun args w => Tryd.call4 args w) (Nat.le_of_ble_eq_true rfl) [(0, .c (encNd (.mk k1 k2 k3 k4 k5))), (1, .c (.sl 2 (encTys s)))] rfl fun β hβ => ?_; have hf := Tryd.func4
    repeat' (first | refine st ?_ | (refine AK.condS rfl (fun h => ?_) (fun h => ?_) <;> first | (cases h; done) | rw [h] | skip) | refine uW hf rfl rfl ?_ | refine uC rfl h1 ?_)
    all_goals first | exact Wk.refl _ | exact wk_nil2
  rw [if_neg hg]
  have hg0 : tGoodN n = 0 := by simpa using hg
  rw [hg0] at h1
  have hns := ndArgs_size n
  obtain ⟨k1, k2, k3, k4, k5⟩ := n
  simp only [ndArgs] at hns
  by_cases hk : k1 ≠ 3
  · simp only [if_pos hk]
    rw [encCX_bad]
    have e1 : (k1 != 3) = true := by simpa using hk
    refine QCalls.of Tryd.func4 rfl (fun args w => Tryd.call4 args w) (Nat.le_of_ble_eq_true rfl) [(0, .c (encNd (.mk k1 k2 k3 k4 k5))), (1, .c (.sl 2 (encTys s)))] rfl fun β hβ => ?_; have hf := Tryd.func4
    repeat' (first | refine st ?_ | (refine AK.condS rfl (fun h => ?_) (fun h => ?_) <;> first | (cases h; done) | rw [h] | skip) | refine uW hf rfl rfl ?_ | refine uC rfl h1 ?_)
    all_goals first | exact Wk.refl _ | exact wk_nil2
  obtain rfl : k1 = 3 := by simpa using hk
  simp only [if_neg (show ¬ ((3 : Int) ≠ 3) from by simp)]
  by_cases hl : 40 < s.length
  · rw [if_pos hl, encCX_bad]
    have e1 : decide ((((encTys s).length : Nat) : Int) > 40) = true := decide_eq_true (by omega)
    refine QCalls.of Tryd.func4 rfl (fun args w => Tryd.call4 args w) (Nat.le_of_ble_eq_true rfl) [(0, .c (encNd (.mk 3 k2 k3 k4 k5))), (1, .c (.sl 2 (encTys s)))] rfl fun β hβ => ?_; have hf := Tryd.func4
    repeat' (first | refine st ?_ | (refine AK.condS rfl (fun h => ?_) (fun h => ?_) <;> first | (cases h; done) | rw [h] | skip) | refine uW hf rfl rfl ?_ | refine uC rfl h1 ?_)
    all_goals first | exact Wk.refl _ | exact wk_nil2
  rw [if_neg hl]
  have e1 : decide ((((encTys s).length : Nat) : Int) > 40) = false := decide_eq_false (by omega)
  refine QCalls.of Tryd.func4 rfl (fun args w => Tryd.call4 args w) (Nat.le_of_ble_eq_true rfl) [(0, .c (encNd (.mk 3 k2 k3 k4 k5))), (1, .c (.sl 2 (encTys s)))] rfl fun β hβ => ?_; have hf := Tryd.func4
  repeat' (first | refine st ?_ | (refine AK.condS rfl (fun h => ?_) (fun h => ?_) <;> first | (cases h; done) | rw [h] | skip) | refine uW hf rfl rfl ?_ | refine uC rfl h1 ?_)
  refine AK.loopE (α := Nat) (fun j => j ≤ s.length ∧ s.all tGood = (s.drop j).all tGood) (fun j => s.length - j)
    (fun j => [(25, .c (.int .i64 j)), (24, .c (.int .i64 (encTys s).length)), (23, .c (.sl 2 (encTys s))), (1, .c (.sl 2 (encTys s))), (2, .ptr 2 0), (4, .ptr 4 0)])
    (fun j => [(2, [.c (.int .i64 3), .c (.int .i64 k2), .c (.int .i64 k3), .c (.str k4), .c (.sl 5 (encNds k5))]), (4, [.own .exact 2 [], .c (.bool false)])]) (fun _ => []) [2, 4] 0
    ⟨by omega, rfl⟩ ⟨.inl rfl, .inl rfl, .inl rfl, .inl rfl, .inl rfl, .inl rfl, trivial⟩ ⟨rfl, rfl, trivial⟩ trivial rfl rfl rfl ?_
  rintro j ⟨hj, hjv⟩ jh
  rcases get_or s j hj with ⟨y, hy, hym⟩ | hje
  · have hcj := tys_lt hy
    have hj2 := lt_of_get hy
    have hys := tysSize_mem hym
    have hgg := Good_calls y (by omega)
    rw [drop_at hy, List.all_cons] at hjv
    obtain ⟨U, us⟩ := y
    cases hgy : tGood (.mk U us) with
    | false =>
      rw [hgy] at hgg hjv
      rw [Bool.false_and] at hjv
      rw [if_neg (by rw [hjv]; decide), encCX_bad]
      clear jh
      repeat' (first | refine st ?_ | (refine AK.condS rfl (fun h => ?_) (fun h => ?_) <;> first | (cases h; done) | rw [h] | skip) | refine uW hf rfl rfl ?_ | refine uI rfl (j) rfl (tys_at hy) rfl ?_ | refine uC rfl hgg ?_)
      all_goals first | exact Wk.refl _ | exact wk_nil2
    | true =>
      rw [hgy] at hgg hjv
      rw [Bool.true_and] at hjv
      repeat' (first | refine st ?_ | (refine AK.condS rfl (fun h => ?_) (fun h => ?_) <;> first | (cases h; done) | rw [h] | skip) | refine uW hf rfl rfl ?_ | refine uI rfl (j) rfl (tys_at hy) rfl ?_ | refine uC rfl hgg ?_)
      exact AK.again (jh (j + 1) ⟨hj2, hjv⟩ (by omega)) ⟨.inl (succ64 (i := j) (by omega)), .inl rfl, .inl rfl, .inl rfl, .inl rfl, .inl rfl, trivial⟩ ⟨rfl, rfl, trivial⟩ trivial rfl rfl rfl
  · have hcj := tys_end hje
    have hall : s.all tGood = true := by rw [hjv, hje, List.drop_length]; rfl
    rw [if_pos hall]
    have hcl := cloneTy_calls s (by omega)
    have hr := crow_calls k5 s 40 (sOk_good hall) (by omega) (by omega) (by omega) (by omega)
    generalize cRow k5 (s, false) = r at hr
    obtain ⟨⟨t, f⟩, e⟩ := r
    clear jh
    repeat' (first | refine st ?_ | (refine AK.condS rfl (fun h => ?_) (fun h => ?_) <;> first | (cases h; done) | rw [h] | skip) | refine uW hf rfl rfl ?_ | refine AOps.calle kn rfl rfl (hcl) rfl (by (repeat' (first | exact rfl | exact trivial | refine ⟨_, _, rfl, ?_, ?_⟩ | refine ⟨_, _, _, rfl, rfl, ?_, ?_⟩)); done) rfl rfl rfl rfl rfl rfl rfl rfl rfl rfl rfl rfl rfl rfl ?_ | refine uC rfl hr ?_)
    all_goals exact Wk.refl _
end Go.Proofs

-- WK
set_option linter.unusedVariables false
set_option linter.unusedSimpArgs false
namespace Go.Proofs
open Go.Abs
theorem kmany_eq (kind n p : Int) (s : List UInt8) (args : List Nd) : many (.mk kind n p s args) = manys args + 1 := rfl
theorem kmanys_nil : manys [] = 0 := rfl
theorem kmanys_cons (x : Nd) (l : List Nd) : manys (x :: l) = many x + manys l := rfl
theorem tyOk_all {l : List Ty} (h : l.all tGood = true) : ∀ t ∈ l, tySize t ≤ 8589934593 := fun t ht => by have := (sOk_good h t ht).2; omega
theorem tysSame_c (x y : Ty) (a b : List Ty) : tysSame (x :: a) (y :: b) = (tySame x y && tysSame a b) := rfl
theorem checks_pure : cTop (.mk 3 0 0 [] [.mk 2 0 40 [] []]) [.mk 4 [], .mk 2 []] = cOk [.mk 2 []] := by
  have h1 : tGoodN (.mk 3 0 0 [] [.mk 2 0 40 [] []]) = 0 := by decide +kernel
  have h2 : List.all [Ty.mk 4 [], .mk 2 []] tGood = true := by decide +kernel
  rw [cTop_of h1 rfl, if_neg (by decide), if_pos h2]
  show cRow [.mk 2 0 40 [] []] ([.mk 4 [], .mk 2 []], false) = _
  rfl
attribute [local irreducible] AK AOps QCalls ECalls GCalls tParse tGood tGoodN cRow cStep cTop many manys

set_option maxHeartbeats 0 in
theorem ktypes_calls (l : List Ty) (hl : l.length ≤ 1099511627776) : ECalls Tryd.prog Tryd.X 5 [.v (.c (.sl 2 (encTys l)))] [.own 2 (encTys l)] [] := by
  cases l with
  | nil =>
    refine ECalls.ofL Tryd.func5 rfl (fun args w => Tryd.call5 args w) (Nat.le_of_ble_eq_true rfl) [(0, .c (.sl 2 []))] [] [] [] rfl rfl fun β => ?_; have hf := Tryd.func5
    repeat' (first | refine st ?_ | refine AK.retE Tryd.hX hf rfl rfl rfl rfl ?_ (by with_reducible rfl) | refine AK.retE Tryd.hX hf rfl rfl rfl rfl ?_ ?_ | refine AK.endE Tryd.hX hf rfl rfl rfl rfl ?_ (by with_reducible rfl) | refine AK.endE Tryd.hX hf rfl rfl rfl rfl ?_ ?_ | (refine uA rfl ?_ ?_ <;> (try (show (_ : Nat) * _ ≤ _; dsimp only))))
    all_goals first | exact rfl | (show _ ≤ _; decide)
  | cons x l =>
    have h1 := encTys_length l
    simp only [List.length_cons] at hl
    refine ECalls.ofL Tryd.func5 rfl (fun args w => Tryd.call5 args w) (Nat.le_of_ble_eq_true rfl) [(0, .c (.sl 2 (encTy x :: encTys l)))] [] [] [] rfl rfl fun β => ?_; have hf := Tryd.func5
    repeat' (first | refine st ?_ | refine AK.retE Tryd.hX hf rfl rfl rfl rfl ?_ (by with_reducible rfl) | refine AK.retE Tryd.hX hf rfl rfl rfl rfl ?_ ?_ | refine AK.endE Tryd.hX hf rfl rfl rfl rfl ?_ (by with_reducible rfl) | refine AK.endE Tryd.hX hf rfl rfl rfl rfl ?_ ?_ | (refine uA rfl ?_ ?_ <;> (try (show (_ : Nat) * _ ≤ _; dsimp only))))
    all_goals first | exact rfl | (show _ ≤ _; simp only [List.length_cons, List.length_nil]; omega)

theorem kseq_calls (l : List CV) : QCalls Tryd.prog Tryd.X 14 [.sl 5 l] (.agg [.int .i64 3, .int .i64 0, .int .i64 0, .str [], .sl 5 l]) := by
  refine QCalls.of Tryd.func14 rfl (fun args w => Tryd.call14 args w) (Nat.le_of_ble_eq_true rfl) [(0, .c (.sl 5 l))] rfl fun β hβ => ?_; have hf := Tryd.func14
  repeat' (first | refine st ?_ | refine uW hf rfl rfl ?_)
  all_goals exact Wk.refl _

set_option maxHeartbeats 0 in
theorem ksame_calls (a b : List Ty) (hl : a.length ≤ 1099511627775) (hs : ∀ t ∈ a, tySize t ≤ 8589934593) : QCalls Tryd.prog Tryd.X 9 [.sl 2 (encTys a), .sl 2 (encTys b)] (.bool (tysSame a b)) := by
  have z1 := encTys_length a
  have z2 := encTys_length b
  by_cases hn : a.length = b.length
  rotate_left
  · rw [tysSame_len a b hn]
    have e1 : ((((encTys a).length : Nat) : Int) != (((encTys b).length : Nat) : Int)) = true := by rw [bne_iff_ne]; omega
    refine QCalls.of Tryd.func9 rfl (fun args w => Tryd.call9 args w) (Nat.le_of_ble_eq_true rfl) [(0, .c (.sl 2 (encTys a))), (1, .c (.sl 2 (encTys b)))] rfl fun β hβ => ?_; have hf := Tryd.func9
    repeat' (first | refine st ?_ | (refine AK.condS rfl (fun h => ?_) (fun h => ?_) <;> first | (cases h; done) | rw [h] | skip) | refine uW hf rfl rfl ?_)
    all_goals exact Wk.refl _
  have e1 : ((((encTys a).length : Nat) : Int) != (((encTys b).length : Nat) : Int)) = false := by rw [z1, z2, hn]; exact bne_self_eq_false _
  refine QCalls.of Tryd.func9 rfl (fun args w => Tryd.call9 args w) (Nat.le_of_ble_eq_true rfl) [(0, .c (.sl 2 (encTys a))), (1, .c (.sl 2 (encTys b)))] rfl fun β hβ => ?_; have hf := Tryd.func9
  repeat' (first | refine st ?_ | (refine AK.condS rfl (fun h => ?_) (fun h => ?_) <;> first | (cases h; done) | rw [h] | skip) | refine uW hf rfl rfl ?_)
  refine AK.loopE (α := Nat) (fun j => j ≤ a.length ∧ tysSame a b = tysSame (a.drop j) (b.drop j)) (fun j => a.length - j)
    (fun j => [(13, .c (.int .i64 j)), (12, .c (.int .i64 (encTys a).length)), (0, .c (.sl 2 (encTys a))), (1, .c (.sl 2 (encTys b)))])
    (fun j => []) (fun _ => []) [] 0
    ⟨by omega, rfl⟩ ⟨.inl rfl, .inl rfl, .inl rfl, .inl rfl, trivial⟩ trivial trivial rfl rfl rfl ?_
  rintro j ⟨hj, hjv⟩ jh
  rcases get_or a j hj with ⟨y, hy, hym⟩ | hje
  · have hcj := tys_lt hy
    have hj2 := lt_of_get hy
    rcases get_or b j (by omega) with ⟨w, hw, hwm⟩ | hwe
    rotate_left
    · omega
    have hgg := Same_calls y w (by have := hs y hym; omega)
    rw [drop_at hy, drop_at hw, tysSame_c] at hjv
    obtain ⟨U, us⟩ := y
    obtain ⟨V, vs⟩ := w
    cases hgy : tySame (.mk U us) (.mk V vs) with
    | false =>
      rw [hgy] at hgg hjv
      rw [Bool.false_and] at hjv
      rw [hjv]
      clear jh
      repeat' (first | refine st ?_ | (refine AK.condS rfl (fun h => ?_) (fun h => ?_) <;> first | (cases h; done) | rw [h] | skip) | refine uW hf rfl rfl ?_ | refine uI rfl (j) rfl (tys_at hy) rfl ?_ | refine uI rfl (j) rfl (tys_at hw) rfl ?_ | refine uC rfl hgg ?_)
      all_goals exact Wk.refl _
    | true =>
      rw [hgy] at hgg hjv
      rw [Bool.true_and] at hjv
      repeat' (first | refine st ?_ | (refine AK.condS rfl (fun h => ?_) (fun h => ?_) <;> first | (cases h; done) | rw [h] | skip) | refine uW hf rfl rfl ?_ | refine uI rfl (j) rfl (tys_at hy) rfl ?_ | refine uI rfl (j) rfl (tys_at hw) rfl ?_ | refine uC rfl hgg ?_)
      exact AK.again (jh (j + 1) ⟨hj2, hjv⟩ (by omega)) ⟨.inl (succ64 (i := j) (by omega)), .inl rfl, .inl rfl, .inl rfl, trivial⟩ trivial trivial rfl rfl rfl
  · have hcj := tys_end hje
    have hall : tysSame a b = true := by rw [hjv, hje, List.drop_length, hn, List.drop_length]; rfl
    rw [hall]
    clear jh
    repeat' (first | refine st ?_ | (refine AK.condS rfl (fun h => ?_) (fun h => ?_) <;> first | (cases h; done) | rw [h] | skip) | refine uW hf rfl rfl ?_)
    all_goals exact Wk.refl _

set_option maxHeartbeats 0 in
theorem kmany_calls : ∀ (t : Nd), ndSize t ≤ 8589934593 → QCalls Tryd.prog Tryd.X 15 [encNd t] (.int .i64 (many t))
  | .mk kind n p s args, ht => by
    have hms := manys_size args
    simp only [ndSize] at ht
    have hl1 := ndsSize_len args
    have hin : ∀ x ∈ args, QCalls Tryd.prog Tryd.X 15 [encNd x] (.int .i64 (many x)) := fun x hx => kmany_calls x (by have := ndsSize_mem hx; omega)
    rw [kmany_eq]
    refine QCalls.of Tryd.func15 rfl (fun args w => Tryd.call15 args w) (Nat.le_of_ble_eq_true rfl) [(0, .c (encNd (.mk kind n p s args)))] rfl fun β hβ => ?_; have hf := Tryd.func15
    repeat' (first | refine st ?_ | (refine AK.condS rfl (fun h => ?_) (fun h => ?_) <;> first | (cases h; done) | rw [h] | skip) | refine uW hf rfl rfl ?_)
    refine AK.loopE (α := Nat × Nat) (fun z => z.1 ≤ args.length ∧ manys args + 1 = z.2 + manys (args.drop z.1)) (fun z => args.length - z.1)
      (fun z => [(9, .c (.int .i64 z.1)), (8, .c (.int .i64 (encNds args).length)), (7, .c (.sl 5 (encNds args))), (3, .c (.int .i64 z.2))]) (fun _ => []) (fun _ => []) [] (0, 1)
      ⟨by omega, by rw [List.drop_zero]; omega⟩ ⟨.inl rfl, .inl rfl, .inl rfl, .inl rfl, trivial⟩ trivial trivial rfl rfl rfl ?_
    rintro ⟨i, m⟩ ⟨hi, hinv⟩ ih
    simp only at hi hinv
    rcases get_or args i hi with ⟨x, hx, hm⟩ | he
    · have hc := nds_lt hx
      have hq := hin x hm
      rw [drop_at hx, kmanys_cons] at hinv
      have h2 := lt_of_get hx
      generalize many x = q at hq hinv
      obtain ⟨x1, x2, x3, x4, x5⟩ := x
      repeat' (first | refine st ?_ | (refine AK.condS rfl (fun h => ?_) (fun h => ?_) <;> first | (cases h; done) | rw [h] | skip) | refine uW hf rfl rfl ?_ | refine uI rfl (i) rfl (nds_at hx) rfl ?_ | refine uC rfl hq ?_)
      refine AK.again (ih (i + 1, m + q) ⟨h2, by show manys args + 1 = m + q + manys (args.drop (i + 1)); omega⟩ (by show args.length - (i + 1) < args.length - i; omega)) ⟨.inl (succ64 (by omega)), .inl rfl, .inl rfl, .inl (add64 (a := m) (b := q) (by omega)), trivial⟩ trivial trivial rfl rfl rfl
    · have hc := nds_end he
      have h0 : manys args + 1 = m := by rw [hinv, he, List.drop_length, kmanys_nil, Nat.add_zero]
      clear ih
      rw [h0]
      repeat' (first | refine st ?_ | (refine AK.condS rfl (fun h => ?_) (fun h => ?_) <;> first | (cases h; done) | rw [h] | skip) | refine uW hf rfl rfl ?_)
      all_goals exact Wk.refl _
termination_by t => SizeOf.sizeOf t
decreasing_by
  have := List.sizeOf_lt_of_mem hx
  simp at this ⊢; omega

theorem checks_calls : QCalls Tryd.prog Tryd.X 6 [] (.bool true) := by
  have h1 := Code_calls (.mk 3 0 0 [] [.mk 2 0 40 [] []]) [.mk 4 [], .mk 2 []] (by decide) (by decide)
  rw [checks_pure] at h1
  have h2 : QCalls Tryd.prog Tryd.X 4 [.agg [.int .i64 3, .int .i64 0, .int .i64 0, .str [], .sl 5 [.agg [.int .i64 2, .int .i64 0, .int .i64 40, .str [], .sl 5 []]]], .sl 2 [.agg [.int .i64 4, .sl 2 []], .agg [.int .i64 2, .sl 2 []]]] (.tup [.agg [.sl 2 [.agg [.int .i64 2, .sl 2 []]], .bool false], .int .i64 0]) := h1
  have h3 := kseq_calls [.agg [.int .i64 2, .int .i64 0, .int .i64 40, .str [], .sl 5 []]]
  clear h1
  refine QCalls.of Tryd.func6 rfl (fun args w => Tryd.call6 args w) (Nat.le_of_ble_eq_true rfl) [] rfl fun β hβ => ?_; have hf := Tryd.func6
  repeat' (first | refine st ?_ | refine uW hf rfl rfl ?_ | refine uC rfl h2 ?_ | refine uC rfl h3 ?_ | refine uI rfl (0) rfl (rfl) rfl ?_ | ((first | refine AOps.splitT rfl rfl rfl asm (fun h => ?_) | refine AOps.splitF rfl rfl rfl asm (fun h => ?_) | refine AOps.split rfl rfl rfl (fun h => ?_) (fun h => ?_)) <;> (fail_if_success (cases h; done)) <;> rw [h]))
  all_goals exact Wk.refl _

end Go.Proofs

-- WK
set_option linter.unusedVariables false
set_option linter.unusedSimpArgs false
namespace Go.Proofs
open Go.Abs
theorem ktysSame_refl (l : List Ty) : tysSame l l = true := (tysSame_iff l l).2 rfl
theorem kndsSize_app : ∀ a b : List Nd, ndsSize (a ++ b) = ndsSize a + ndsSize b
  | [], b => by simp [ndsSize]
  | x :: a, b => by simp only [List.cons_append, ndsSize, kndsSize_app a b]; omega
theorem ktysSize_le : ∀ {l : List Ty} {B : Nat}, (∀ t ∈ l, tySize t ≤ B) → tysSize l ≤ l.length * B
  | [], _, _ => by simp [tysSize]
  | x :: l, B, h => by
    have h1 := h x (List.mem_cons_self ..)
    have h2 := ktysSize_le (l := l) (B := B) (fun t ht => h t (List.mem_cons_of_mem _ ht))
    simp only [tysSize, List.length_cons, Nat.add_mul]; omega
theorem ktyOk_le {l : List Ty} (h : l.all tGood = true) (hl : l.length ≤ 40) : tysSize l ≤ 8589934593 := by
  have h1 := ktysSize_le (B := 100000) (fun t ht => by have := (sOk_good h t ht).2; omega)
  have h2 : l.length * 100000 ≤ 40 * 100000 := Nat.mul_le_mul_right _ hl
  omega
/-- Both are rows, and not too many together. -/
def kSmall (a b : Nd) : Bool := bif (ndK a == 3) then (bif (ndK b == 3) then decide ((many a : Int) + many b ≤ 300) else false) else false
theorem kSmall_le {a b : Nd} (h : kSmall a b = true) : many a + many b ≤ 300 := by
  unfold kSmall at h
  cases c1 : (ndK a == 3) <;> rw [c1] at h
  · cases h
  cases c2 : (ndK b == 3) <;> rw [c2] at h
  · cases h
  have := of_decide_eq_true h
  omega
def kBoth (a b : Nd) : Nd := .mk 3 0 0 [] (ndArgs a ++ ndArgs b)
attribute [local irreducible] AK AOps QCalls ECalls GCalls tParse tGood tGoodN cRow cStep cTop many manys

set_option maxHeartbeats 0 in
theorem ksmall_calls (a b : Nd) (ha : ndSize a ≤ 2000000000) (hb : ndSize b ≤ 2000000000) : QCalls Tryd.prog Tryd.X 7 [encNd a, encNd b] (.bool (kSmall a b)) := by
  have q1 := kmany_calls a (by omega)
  have q2 := kmany_calls b (by omega)
  have s1 := many_size a
  have s2 := many_size b
  have hw : IntKind.i64.wrap ((many a : Int) + (many b : Int)) = (many a : Int) + many b := w64 (by omega) (by omega)
  have e : kSmall a b = bif (ndK a == 3) then (bif (ndK b == 3) then decide ((many a : Int) + many b ≤ 300) else false) else false := rfl
  rw [e]; clear e
  generalize many a = m1 at *
  generalize many b = m2 at *
  obtain ⟨k1, k2, k3, k4, k5⟩ := a
  obtain ⟨l1, l2, l3, l4, l5⟩ := b
  show QCalls _ _ _ _ (.bool (bif (k1 == 3) then (bif (l1 == 3) then decide ((m1 : Int) + m2 ≤ 300) else false) else false))
  cases c1 : (k1 == 3) with
  | false =>
    refine QCalls.of Tryd.func7 rfl (fun args w => Tryd.call7 args w) (Nat.le_of_ble_eq_true rfl) [(0, .c (encNd (.mk k1 k2 k3 k4 k5))), (1, .c (encNd (.mk l1 l2 l3 l4 l5)))] rfl fun β hβ => ?_; have hf := Tryd.func7
    repeat' (first | refine st ?_ | refine uW hf rfl rfl ?_ | refine uC rfl q1 ?_ | refine uC rfl q2 ?_ | ((first | refine AOps.splitT rfl rfl rfl asm (fun h => ?_) | refine AOps.splitF rfl rfl rfl asm (fun h => ?_) | refine AOps.split rfl rfl rfl (fun h => ?_) (fun h => ?_)) <;> (fail_if_success (cases h; done)) <;> rw [h]))
    all_goals exact Wk.refl _
  | true =>
    cases c2 : (l1 == 3) with
    | false =>
      refine QCalls.of Tryd.func7 rfl (fun args w => Tryd.call7 args w) (Nat.le_of_ble_eq_true rfl) [(0, .c (encNd (.mk k1 k2 k3 k4 k5))), (1, .c (encNd (.mk l1 l2 l3 l4 l5)))] rfl fun β hβ => ?_; have hf := Tryd.func7
      repeat' (first | refine st ?_ | refine uW hf rfl rfl ?_ | refine uC rfl q1 ?_ | refine uC rfl q2 ?_ | ((first | refine AOps.splitT rfl rfl rfl asm (fun h => ?_) | refine AOps.splitF rfl rfl rfl asm (fun h => ?_) | refine AOps.split rfl rfl rfl (fun h => ?_) (fun h => ?_)) <;> (fail_if_success (cases h; done)) <;> rw [h]))
      all_goals exact Wk.refl _
    | true =>
      show QCalls _ _ _ _ (.bool (decide ((m1 : Int) + m2 ≤ 300)))
      rw [← hw]
      refine QCalls.of Tryd.func7 rfl (fun args w => Tryd.call7 args w) (Nat.le_of_ble_eq_true rfl) [(0, .c (encNd (.mk k1 k2 k3 k4 k5))), (1, .c (encNd (.mk l1 l2 l3 l4 l5)))] rfl fun β hβ => ?_; have hf := Tryd.func7
      repeat' (first | refine st ?_ | refine uW hf rfl rfl ?_ | refine uC rfl q1 ?_ | refine uC rfl q2 ?_ | ((first | refine AOps.splitT rfl rfl rfl asm (fun h => ?_) | refine AOps.splitF rfl rfl rfl asm (fun h => ?_) | refine AOps.split rfl rfl rfl (fun h => ?_) (fun h => ?_)) <;> (fail_if_success (cases h; done)) <;> rw [h]))
      all_goals exact Wk.refl _

set_option maxHeartbeats 0 in
theorem kboth_calls (a b : Nd) (ha : ndSize a ≤ 2000000000) (hb : ndSize b ≤ 2000000000) : QCalls Tryd.prog Tryd.X 8 [encNd a, encNd b] (encNd (kBoth a b)) := by
  have s1 := ndsSize_len (ndArgs a)
  have s2 := ndsSize_len (ndArgs b)
  obtain ⟨k1, k2, k3, k4, k5⟩ := a
  obtain ⟨l1, l2, l3, l4, l5⟩ := b
  simp only [ndArgs, ndSize] at s1 s2 ha hb
  have z1 := encNds_length k5
  have z2 := encNds_length l5
  have b1 : (encNds k5).length ≤ 2000000000 := by omega
  have b2 : (encNds l5).length ≤ 2000000000 := by omega
  have q1 := kseq_calls (encNds k5 ++ encNds l5)
  have e : encNd (kBoth (.mk k1 k2 k3 k4 k5) (.mk l1 l2 l3 l4 l5)) = .agg [.int .i64 3, .int .i64 0, .int .i64 0, .str [], .sl 5 (encNds k5 ++ encNds l5)] := by
    show CV.agg [_, _, _, _, .sl 5 (encNds (k5 ++ l5))] = _
    rw [encNds_append]
  rw [e]; clear e
  cases k5 with
  | nil =>
    cases l5 with
    | nil =>
      refine QCalls.of Tryd.func8 rfl (fun args w => Tryd.call8 args w) (Nat.le_of_ble_eq_true rfl) [(0, .c (encNd (.mk k1 k2 k3 k4 []))), (1, .c (encNd (.mk l1 l2 l3 l4 [])))] rfl fun β hβ => ?_; have hf := Tryd.func8
      repeat' (first | refine st ?_ | refine uW hf rfl rfl ?_ | refine uC rfl q1 ?_ | (refine uA rfl ?_ ?_ <;> (try (show (_ : Nat) * _ ≤ _; dsimp only))))
      all_goals first | exact Wk.refl _ | (show (_ : Nat) ≤ _; decide)
    | cons y l5 =>
      obtain ⟨y1, y2, y3, y4, y5⟩ := y
      refine QCalls.of Tryd.func8 rfl (fun args w => Tryd.call8 args w) (Nat.le_of_ble_eq_true rfl) [(0, .c (encNd (.mk k1 k2 k3 k4 []))), (1, .c (encNd (.mk l1 l2 l3 l4 (.mk y1 y2 y3 y4 y5 :: l5))))] rfl fun β hβ => ?_; have hf := Tryd.func8
      repeat' (first | refine st ?_ | refine uW hf rfl rfl ?_ | refine uC rfl q1 ?_ | (refine uA rfl ?_ ?_ <;> (try (show (_ : Nat) * _ ≤ _; dsimp only))))
      all_goals first | exact Wk.refl _ | (show (_ : Nat) ≤ _; simp only [List.nil_append, List.length_append, List.length_nil]; omega)
  | cons x k5 =>
    obtain ⟨x1, x2, x3, x4, x5⟩ := x
    refine QCalls.of Tryd.func8 rfl (fun args w => Tryd.call8 args w) (Nat.le_of_ble_eq_true rfl) [(0, .c (encNd (.mk k1 k2 k3 k4 (.mk x1 x2 x3 x4 x5 :: k5)))), (1, .c (encNd (.mk l1 l2 l3 l4 l5)))] rfl fun β hβ => ?_; have hf := Tryd.func8
    repeat' (first | refine st ?_ | refine uW hf rfl rfl ?_ | refine uC rfl q1 ?_ | (refine uA rfl ?_ ?_ <;> (try (show (_ : Nat) * _ ≤ _; dsimp only))))
    all_goals first | exact Wk.refl _ | (show (_ : Nat) ≤ _; simp only [List.nil_append, List.length_append, List.length_nil]; omega)

set_option maxHeartbeats 0 in
theorem CheckParts_calls (a : Nd) (_ : ndWf a) (ha : ndSize a ≤ 2000000000) (b : Nd) (_ : ndWf b) (hb : ndSize b ≤ 2000000000) (s : List Ty) (_ : tysWf s) (hs : tysSize s ≤ 2000000000) : QCalls Tryd.prog Tryd.X 3 [encNd a, encNd b, .sl 2 (encTys s)] (.bool true) := by
  have zl := tysSize_len s
  have h1 := Code_calls a s (by omega) (by omega)
  have h2 := ktypes_calls s (by omega)
  have h3 := checks_calls
  have hq4 := kmany_calls a
  have h5 := ksmall_calls a b ha hb
  have h6 := kboth_calls a b ha hb
  have hsz : ndSize (kBoth a b) ≤ 8589934593 := by
    have e1 : ndsSize (ndArgs a) ≤ ndSize a := by cases a; simp only [ndArgs, ndSize]; omega
    have e2 : ndsSize (ndArgs b) ≤ ndSize b := by cases b; simp only [ndArgs, ndSize]; omega
    simp only [kBoth, ndSize, kndsSize_app, List.length_nil]; omega
  have h7 := Code_calls (kBoth a b) s hsz (by omega)
  have hsml := @kSmall_le a b
  have hbad := @cTop_err a s
  have hgood := @cTop_good a s
  have hp : (cTop a s).2 = 0 → (cTop a s).1.2 = false → (cTop b (cTop a s).1.1).2 = 0 → many a + many b ≤ 300 → cTop (kBoth a b) s = cTop b (cTop a s).1.1 := fun h1 h2 h3 h4 => cTop_parts h1 h2 h3 h4
  have hcode := fun t => Code_calls b t (by omega)
  have hbadb := @cTop_err b
  have hgoodb := @cTop_good b
  clear hq4
  generalize kBoth a b = c at *
  generalize kSmall a b = sm at *
  generalize cTop a s = r at h1 hbad hgood hp
  obtain ⟨⟨t, f⟩, e⟩ := r
  obtain ⟨k1, k2, k3, k4, k5⟩ := a
  obtain ⟨l1, l2, l3, l4, l5⟩ := b
  simp only at hbad hgood hp
  by_cases he : e = 0
  rotate_left
  · have hb := hbad he
    simp only [Prod.mk.injEq] at hb
    obtain ⟨rfl, rfl⟩ := hb
    have e1 : (e != 0) = true := by simpa using he
    clear hcode hbadb hgoodb hp hsml h5 h6 h7
    refine QCalls.of Tryd.func3 rfl (fun args w => Tryd.call3 args w) (Nat.le_of_ble_eq_true rfl) [(0, .c (encNd (.mk k1 k2 k3 k4 k5))), (1, .c (encNd (.mk l1 l2 l3 l4 l5))), (2, .c (.sl 2 (encTys s)))] rfl fun β hβ => ?_; have hf := Tryd.func3
    repeat' (first | refine st ?_ | (refine AK.condS rfl (fun h => ?_) (fun h => ?_) <;> first | (cases h; done) | rw [h] | skip) | refine uW hf rfl rfl ?_ | refine AOps.calle kn rfl rfl (h2) rfl (by (repeat' (first | exact rfl | exact trivial | refine ⟨_, _, rfl, ?_, ?_⟩ | refine ⟨_, _, _, rfl, rfl, ?_, ?_⟩)); done) rfl rfl rfl rfl rfl rfl rfl rfl rfl rfl rfl rfl rfl rfl ?_ | refine uC rfl h1 ?_ | refine uC rfl h3 ?_ | ((first | refine AOps.splitT rfl rfl rfl asm (fun h => ?_) | refine AOps.splitF rfl rfl rfl asm (fun h => ?_) | refine AOps.split rfl rfl rfl (fun h => ?_) (fun h => ?_)) <;> (fail_if_success (cases h; done)) <;> rw [h]))
    all_goals exact Wk.refl _
  subst he
  obtain ⟨g1, g2, g3⟩ := hgood rfl
  cases f with
  | true =>
    obtain rfl := g3 rfl
    clear hcode hbadb hgoodb hp hsml h5 h6 h7
    refine QCalls.of Tryd.func3 rfl (fun args w => Tryd.call3 args w) (Nat.le_of_ble_eq_true rfl) [(0, .c (encNd (.mk k1 k2 k3 k4 k5))), (1, .c (encNd (.mk l1 l2 l3 l4 l5))), (2, .c (.sl 2 (encTys s)))] rfl fun β hβ => ?_; have hf := Tryd.func3
    repeat' (first | refine st ?_ | (refine AK.condS rfl (fun h => ?_) (fun h => ?_) <;> first | (cases h; done) | rw [h] | skip) | refine uW hf rfl rfl ?_ | refine AOps.calle kn rfl rfl (h2) rfl (by (repeat' (first | exact rfl | exact trivial | refine ⟨_, _, rfl, ?_, ?_⟩ | refine ⟨_, _, _, rfl, rfl, ?_, ?_⟩)); done) rfl rfl rfl rfl rfl rfl rfl rfl rfl rfl rfl rfl rfl rfl ?_ | refine uC rfl h1 ?_ | refine uC rfl h3 ?_ | ((first | refine AOps.splitT rfl rfl rfl asm (fun h => ?_) | refine AOps.splitF rfl rfl rfl asm (fun h => ?_) | refine AOps.split rfl rfl rfl (fun h => ?_) (fun h => ?_)) <;> (fail_if_success (cases h; done)) <;> rw [h]))
    all_goals exact Wk.refl _
  | false =>
    have h4 := hcode t (ktyOk_le g1 g2)
    have hbb := @hbadb t
    have hgb := @hgoodb t
    replace hp := hp rfl rfl
    clear hcode hbadb hgoodb
    generalize cTop (.mk l1 l2 l3 l4 l5) t = r2 at h4 hbb hgb hp
    obtain ⟨⟨u, f2⟩, e2⟩ := r2
    simp only at hbb hgb hp
    by_cases he2 : e2 = 0
    rotate_left
    · have hb2 := hbb he2
      simp only [Prod.mk.injEq] at hb2
      obtain ⟨rfl, rfl⟩ := hb2
      have e1 : (e2 != 0) = true := by simpa using he2
      clear hp hsml h5 h6 h7
      refine QCalls.of Tryd.func3 rfl (fun args w => Tryd.call3 args w) (Nat.le_of_ble_eq_true rfl) [(0, .c (encNd (.mk k1 k2 k3 k4 k5))), (1, .c (encNd (.mk l1 l2 l3 l4 l5))), (2, .c (.sl 2 (encTys s)))] rfl fun β hβ => ?_; have hf := Tryd.func3
      repeat' (first | refine st ?_ | (refine AK.condS rfl (fun h => ?_) (fun h => ?_) <;> first | (cases h; done) | rw [h] | skip) | refine uW hf rfl rfl ?_ | refine AOps.calle kn rfl rfl (h2) rfl (by (repeat' (first | exact rfl | exact trivial | refine ⟨_, _, rfl, ?_, ?_⟩ | refine ⟨_, _, _, rfl, rfl, ?_, ?_⟩)); done) rfl rfl rfl rfl rfl rfl rfl rfl rfl rfl rfl rfl rfl rfl ?_ | refine uC rfl h1 ?_ | refine uC rfl h3 ?_ | refine uC rfl h4 ?_ | ((first | refine AOps.splitT rfl rfl rfl asm (fun h => ?_) | refine AOps.splitF rfl rfl rfl asm (fun h => ?_) | refine AOps.split rfl rfl rfl (fun h => ?_) (fun h => ?_)) <;> (fail_if_success (cases h; done)) <;> rw [h]))
      all_goals exact Wk.refl _
    subst he2
    obtain ⟨u1, u2, u3⟩ := hgb rfl
    cases sm with
    | false =>
      clear hp hsml h6 h7
      cases hu : ((((encTys u).length : Nat) : Int) == 0) with
      | true =>
        refine QCalls.of Tryd.func3 rfl (fun args w => Tryd.call3 args w) (Nat.le_of_ble_eq_true rfl) [(0, .c (encNd (.mk k1 k2 k3 k4 k5))), (1, .c (encNd (.mk l1 l2 l3 l4 l5))), (2, .c (.sl 2 (encTys s)))] rfl fun β hβ => ?_; have hf := Tryd.func3
        repeat' (first | refine st ?_ | (refine AK.condS rfl (fun h => ?_) (fun h => ?_) <;> first | (cases h; done) | rw [h] | skip) | refine uW hf rfl rfl ?_ | refine AOps.calle kn rfl rfl (h2) rfl (by (repeat' (first | exact rfl | exact trivial | refine ⟨_, _, rfl, ?_, ?_⟩ | refine ⟨_, _, _, rfl, rfl, ?_, ?_⟩)); done) rfl rfl rfl rfl rfl rfl rfl rfl rfl rfl rfl rfl rfl rfl ?_ | refine uC rfl h1 ?_ | refine uC rfl h3 ?_ | refine uC rfl h4 ?_ | refine uC rfl h5 ?_ | ((first | refine AOps.splitT rfl rfl rfl asm (fun h => ?_) | refine AOps.splitF rfl rfl rfl asm (fun h => ?_) | refine AOps.split rfl rfl rfl (fun h => ?_) (fun h => ?_)) <;> (fail_if_success (cases h; done)) <;> rw [h]))
        all_goals exact Wk.refl _
      | false =>
        refine QCalls.of Tryd.func3 rfl (fun args w => Tryd.call3 args w) (Nat.le_of_ble_eq_true rfl) [(0, .c (encNd (.mk k1 k2 k3 k4 k5))), (1, .c (encNd (.mk l1 l2 l3 l4 l5))), (2, .c (.sl 2 (encTys s)))] rfl fun β hβ => ?_; have hf := Tryd.func3
        repeat' (first | refine st ?_ | (refine AK.condS rfl (fun h => ?_) (fun h => ?_) <;> first | (cases h; done) | rw [h] | skip) | refine uW hf rfl rfl ?_ | refine AOps.calle kn rfl rfl (h2) rfl (by (repeat' (first | exact rfl | exact trivial | refine ⟨_, _, rfl, ?_, ?_⟩ | refine ⟨_, _, _, rfl, rfl, ?_, ?_⟩)); done) rfl rfl rfl rfl rfl rfl rfl rfl rfl rfl rfl rfl rfl rfl ?_ | refine uC rfl h1 ?_ | refine uC rfl h3 ?_ | refine uC rfl h4 ?_ | refine uC rfl h5 ?_ | ((first | refine AOps.splitT rfl rfl rfl asm (fun h => ?_) | refine AOps.splitF rfl rfl rfl asm (fun h => ?_) | refine AOps.split rfl rfl rfl (fun h => ?_) (fun h => ?_)) <;> (fail_if_success (cases h; done)) <;> rw [h]))
        all_goals exact Wk.refl _
    | true =>
      have hx := hp rfl (hsml rfl)
      rw [hx] at h7
      have h8 := ksame_calls u u (by omega) (tyOk_all u1)
      rw [ktysSame_refl] at h8
      clear hp hsml hx
      obtain ⟨c1, c2, c3, c4, c5⟩ := c
      cases f2 with
      | true =>
        refine QCalls.of Tryd.func3 rfl (fun args w => Tryd.call3 args w) (Nat.le_of_ble_eq_true rfl) [(0, .c (encNd (.mk k1 k2 k3 k4 k5))), (1, .c (encNd (.mk l1 l2 l3 l4 l5))), (2, .c (.sl 2 (encTys s)))] rfl fun β hβ => ?_; have hf := Tryd.func3
        repeat' (first | refine st ?_ | (refine AK.condS rfl (fun h => ?_) (fun h => ?_) <;> first | (cases h; done) | rw [h] | skip) | refine uW hf rfl rfl ?_ | refine AOps.calle kn rfl rfl (h2) rfl (by (repeat' (first | exact rfl | exact trivial | refine ⟨_, _, rfl, ?_, ?_⟩ | refine ⟨_, _, _, rfl, rfl, ?_, ?_⟩)); done) rfl rfl rfl rfl rfl rfl rfl rfl rfl rfl rfl rfl rfl rfl ?_ | refine uC rfl h1 ?_ | refine uC rfl h3 ?_ | refine uC rfl h4 ?_ | refine uC rfl h5 ?_ | refine uC rfl h6 ?_ | refine uC rfl h7 ?_ | refine uC rfl h8 ?_ | ((first | refine AOps.splitT rfl rfl rfl asm (fun h => ?_) | refine AOps.splitF rfl rfl rfl asm (fun h => ?_) | refine AOps.split rfl rfl rfl (fun h => ?_) (fun h => ?_)) <;> (fail_if_success (cases h; done)) <;> rw [h]))
        all_goals exact Wk.refl _
      | false =>
        refine QCalls.of Tryd.func3 rfl (fun args w => Tryd.call3 args w) (Nat.le_of_ble_eq_true rfl) [(0, .c (encNd (.mk k1 k2 k3 k4 k5))), (1, .c (encNd (.mk l1 l2 l3 l4 l5))), (2, .c (.sl 2 (encTys s)))] rfl fun β hβ => ?_; have hf := Tryd.func3
        repeat' (first | refine st ?_ | (refine AK.condS rfl (fun h => ?_) (fun h => ?_) <;> first | (cases h; done) | rw [h] | skip) | refine uW hf rfl rfl ?_ | refine AOps.calle kn rfl rfl (h2) rfl (by (repeat' (first | exact rfl | exact trivial | refine ⟨_, _, rfl, ?_, ?_⟩ | refine ⟨_, _, _, rfl, rfl, ?_, ?_⟩)); done) rfl rfl rfl rfl rfl rfl rfl rfl rfl rfl rfl rfl rfl rfl ?_ | refine uC rfl h1 ?_ | refine uC rfl h3 ?_ | refine uC rfl h4 ?_ | refine uC rfl h5 ?_ | refine uC rfl h6 ?_ | refine uC rfl h7 ?_ | refine uC rfl h8 ?_ | ((first | refine AOps.splitT rfl rfl rfl asm (fun h => ?_) | refine AOps.splitF rfl rfl rfl asm (fun h => ?_) | refine AOps.split rfl rfl rfl (fun h => ?_) (fun h => ?_)) <;> (fail_if_success (cases h; done)) <;> rw [h]))
        all_goals exact Wk.refl _
end Go.Proofs

set_option linter.unusedVariables false
set_option linter.unusedSimpArgs false
namespace Go.Proofs
open Go.Abs Go.ChangeShapes Go.WideShapes Go.ChangeAt Go.RowKit

theorem bulkAll_sum {H : Type} : ∀ (l : List (DataW H)), (l.map YtegjgkkcgalonaaDoor.Rows.uptoBulk).sum = YtegjgkkcgalonaaDoor.Rows.uptoBulkAll l
  | [] => rfl
  | d :: l => by simp only [List.map_cons, List.sum_cons, YtegjgkkcgalonaaDoor.Rows.uptoBulkAll, bulkAll_sum l]

theorem bulkOk {H : Type} : BulkOk (H := H) YtegjgkkcgalonaaDoor.Rows.uptoBulk where
  lit := fun l => by cases l <;> simp [YtegjgkkcgalonaaDoor.Rows.uptoBulk]
  str := fun s => by simp [YtegjgkkcgalonaaDoor.Rows.uptoBulk]
  nil := by simp [YtegjgkkcgalonaaDoor.Rows.uptoBulk]
  slice := fun l r => by rw [bulkAll_sum]; simp only [YtegjgkkcgalonaaDoor.Rows.uptoBulk]; omega
  agg := fun l => by rw [bulkAll_sum]; simp only [YtegjgkkcgalonaaDoor.Rows.uptoBulk]; omega

def RTy : CV → Nat → Prop := fun c m => ∃ t : Ty, c = encTy t ∧ tyWf t ∧ tySize t ≤ m
def RNd : CV → Nat → Prop := fun c m => ∃ t : Nd, c = encNd t ∧ ndWf t ∧ ndSize t ≤ m
def RVl : CV → Nat → Prop := fun c m => ∃ t : Vl, c = encVl t ∧ vlWf t ∧ vlSize t ≤ m

theorem rows_tys : ∀ {rows : List CV} {m : Nat}, RowsR RTy rows m → ∃ l : List Ty, rows = encTys l ∧ tysWf l ∧ tysSize l ≤ m
  | [], m, _ => ⟨[], rfl, trivial, by simp [tysSize]⟩
  | r :: rows, m, ⟨k, m', ⟨t, h1, h2, h3⟩, h4, h5⟩ => by
    obtain ⟨l, e1, e2, e3⟩ := rows_tys h4
    exact ⟨t :: l, by rw [h1, e1]; rfl, ⟨h2, e2⟩, by simp only [tysSize]; omega⟩
theorem rows_nds : ∀ {rows : List CV} {m : Nat}, RowsR RNd rows m → ∃ l : List Nd, rows = encNds l ∧ ndsWf l ∧ ndsSize l ≤ m
  | [], m, _ => ⟨[], rfl, trivial, by simp [ndsSize]⟩
  | r :: rows, m, ⟨k, m', ⟨t, h1, h2, h3⟩, h4, h5⟩ => by
    obtain ⟨l, e1, e2, e3⟩ := rows_nds h4
    exact ⟨t :: l, by rw [h1, e1]; rfl, ⟨h2, e2⟩, by simp only [ndsSize]; omega⟩
abbrev Rint : CV → Nat → Prop := fun c k => ∃ z, c = .int .i64 z ∧ (Lit.int .i64 z).wf = true ∧ 1 ≤ k
abbrev Rstr : CV → Nat → Prop := fun c k => ∃ s, c = .str s ∧ s.length + 1 ≤ k
abbrev Rsl (s : Nat) (R : CV → Nat → Prop) : CV → Nat → Prop := fun c k => ∃ rows, c = .sl s rows ∧ ∃ m', RowsR R rows m' ∧ m' + 1 ≤ k

theorem cells_int : Tryd.prog.cellsOf 3 = 1 := by kernel_rfl
theorem cells_str : Tryd.prog.cellsOf 9 = 1 := by kernel_rfl
theorem cells_tys : Tryd.prog.cellsOf 25 = 1 := by kernel_rfl
theorem cells_nds : Tryd.prog.cellsOf 22 = 1 := by kernel_rfl
theorem cells_ty : Tryd.prog.cellsOf 39 = 2 := by kernel_rfl
theorem cells_nd : Tryd.prog.cellsOf 24 = 5 := by kernel_rfl
section
variable {H : Type} {enc : TypeId × Value → H} {W : World}

theorem rdSl {m e t s : Nat} {R : CV → Nat → Prop} (hu : Tryd.prog.underlying t = some (.slice e)) (hs : Tryd.prog.cellsOf e = s) (h0 : 0 < s) (h : ∀ k, k < m → RD enc Tryd.prog W YtegjgkkcgalonaaDoor.Rows.uptoBulk k e R) :
    RD (H := H) enc Tryd.prog W YtegjgkkcgalonaaDoor.Rows.uptoBulk m t (Rsl s R) := by
  cases m with
  | zero => exact RD.zero
  | succ k => exact RD.slice bulkOk hu hs h0 (h k (by omega))

theorem rdTy : ∀ (n m : Nat), m ≤ n → RD (H := H) enc Tryd.prog W YtegjgkkcgalonaaDoor.Rows.uptoBulk m 39 RTy
  | 0, m, hm => by obtain rfl : m = 0 := by omega
                   exact RD.zero
  | n + 1, 0, _ => RD.zero
  | n + 1, m + 1, hm => by
    refine RD.mono (RD.struct bulkOk Tryd.underlying39 rfl (Rs := [Rint, Rsl 2 RTy]) (fun k hk => ?_) ?_) (Nat.le_refl _) ?_
    · exact ⟨_, _, rfl, rfl, RD.int bulkOk Tryd.underlying3, _, _, rfl, by rw [cells_int], rdSl Tryd.underlying25 cells_ty (by decide) (fun q hq => rdTy n q (by omega)), rfl⟩
    · simp only [List.map, fieldsEnd, cells_int, cells_tys, cells_ty]
    · rintro c k ⟨l, rfl, m', hF, hle⟩
      obtain ⟨c1, k1, l1, m1, rfl, ⟨z, rfl, hz, _⟩, ⟨c2, k2, l2, m2, rfl, ⟨rows, rfl, m3, hr, h3⟩, rfl, h4⟩, h5⟩ := hF
      obtain ⟨tl, rfl, e2, e3⟩ := rows_tys hr
      exact ⟨.mk z tl, rfl, ⟨bounds_i64 hz, e2⟩, by simp only [tySize]; omega⟩

theorem rdNd : ∀ (n m : Nat), m ≤ n → RD (H := H) enc Tryd.prog W YtegjgkkcgalonaaDoor.Rows.uptoBulk m 24 RNd
  | 0, m, hm => by obtain rfl : m = 0 := by omega
                   exact RD.zero
  | n + 1, 0, _ => RD.zero
  | n + 1, m + 1, hm => by
    refine RD.mono (RD.struct bulkOk Tryd.underlying24 rfl (Rs := [Rint, Rint, Rint, Rstr, Rsl 5 RNd]) (fun k hk => ?_) ?_) (Nat.le_refl _) ?_
    · exact ⟨_, _, rfl, rfl, RD.int bulkOk Tryd.underlying3, _, _, rfl, by rw [cells_int], RD.int bulkOk Tryd.underlying3, _, _, rfl, by rw [cells_int], RD.int bulkOk Tryd.underlying3,
        _, _, rfl, by rw [cells_int], RD.str bulkOk Tryd.underlying9, _, _, rfl, by rw [cells_int, cells_str], rdSl Tryd.underlying22 cells_nd (by decide) (fun q hq => rdNd n q (by omega)), rfl⟩
    · simp only [List.map, fieldsEnd, cells_int, cells_str, cells_nds, cells_nd]
    · rintro c k ⟨l, rfl, m', hF, hle⟩
      obtain ⟨c1, k1, l1, m1, rfl, ⟨z, rfl, hz, _⟩, ⟨c2, k2, l2, m2, rfl, ⟨z2, rfl, hz2, _⟩, ⟨c3, k3, l3, m3, rfl, ⟨z3, rfl, hz3, _⟩, ⟨c4, k4, l4, m4, rfl, ⟨s, rfl, hs⟩, ⟨c5, k5, l5, m5, rfl, ⟨rows, rfl, m6, hr, h6⟩, rfl, h7⟩, h8⟩, h9⟩, h10⟩, h11⟩ := hF
      obtain ⟨tl, rfl, e2, e3⟩ := rows_nds hr
      exact ⟨.mk z z2 z3 s tl, rfl, ⟨bounds_i64 hz, bounds_i64 hz2, bounds_i64 hz3, e2⟩, by simp only [ndSize]; omega⟩

set_option maxRecDepth 100000 in
theorem openNd {v : Value} {d : DataW H} {ps : List MemPlace} {b0 : Nat} {r : Reach} (hok : Value.okWide Tryd.prog W r b0 24 v) (hd : DataW.Trod enc Tryd.prog W 0 (fun _ => true) true 24 v d ps) :
    ∃ a : Nd, Rel (ImmOf W) (encNd a) v ∧ ndWf a ∧ ndSize a ≤ YtegjgkkcgalonaaDoor.Rows.uptoBulk d := by
  obtain ⟨c, h1, h⟩ := rel_of_trod_agg (R := RNd) Tryd.underlying24 (fun n => rdNd n n (Nat.le_refl _)) hd hok (fun c k h => by obtain ⟨t, h, _⟩ := h; cases t; exact ⟨_, h⟩)
  obtain ⟨a, rfl, h2, h3⟩ := h
  exact ⟨a, h1, h2, h3⟩
end
end Go.Proofs

set_option linter.unusedVariables false
namespace Go.Proofs
open Go.Abs Go.ChangeShapes Go.WideShapes Go.ChangeAt Go.RowKit
section
variable {H : Type} {enc : TypeId × Value → H} {W : World}
set_option maxRecDepth 100000 in
theorem openTys {v : Value} {d : DataW H} {ps : List MemPlace} {b0 : Nat} {r : Reach} (hok : Value.okWide Tryd.prog W r b0 25 v) (hd : DataW.Trod enc Tryd.prog W 0 (fun _ => true) true 25 v d ps) :
    ∃ a : List Ty, Rel (ImmOf W) (.sl 2 (encTys a)) v ∧ tysWf a ∧ tysSize a ≤ YtegjgkkcgalonaaDoor.Rows.uptoBulk d := by
  obtain ⟨c, h1, h⟩ := rel_of_trod_slice (R := Rsl 2 RTy) Tryd.underlying25 (fun n => rdSl Tryd.underlying25 cells_ty (by decide) (fun k _ => rdTy k k (Nat.le_refl _))) hd hok (fun c k h => by obtain ⟨rows, h, _⟩ := h; exact ⟨_, _, h⟩)
  obtain ⟨rows, rfl, m', hr, hle⟩ := h
  obtain ⟨l, rfl, h2, h3⟩ := rows_tys hr
  exact ⟨l, h1, h2, by omega⟩
end
end Go.Proofs

set_option linter.unusedSimpArgs false
set_option linter.unusedVariables false
namespace Go.Abs
open Go.ChangeShapes Go.WideShapes Go.RowKit

theorem cell_plain {P : Program} {w : World} {r : Reach} {base : Nat} {t : TypeId} {v : Value} (h : Cell.ok P w r base t v) : (∀ vs, v ≠ .agg vs) ∧ ∀ vs, v ≠ .tuple vs := by
  constructor
  · rintro vs rfl
    unfold Cell.ok at h
    split at h <;> simp_all
  · rintro vs rfl
    unfold Cell.ok at h
    split at h <;> simp_all

/-- A package variable of two cells. -/
theorem glob_two {P : Program} {w : World} (hS : w.ShapedOpen P) {g : Nat} {zero : Array Value} {t : TypeId} (hg : Nat.blt g P.globals.size = true)
    (h0 : ((begin P (fun _ _ => 0) default).world.heap[g]?).bind Obj.row? = some (zero, t)) (hb : P.buildable t = true) (hz : zero.size = 2) :
    Rel (ImmOf w) (.ip [.any, .any]) (.pointer (some ⟨g, 0, none⟩)) := by
  obtain ⟨cs, h1, h2, h3⟩ := hS.1 g zero t (Nat.blt_eq.mp hg) h0
  obtain ⟨ts, _, _, h4⟩ := h3 hb
  rw [hz] at h2
  have c0 : cs[0]? = some cs[0] := by simp [h2]
  have c1 : cs[1]? = some cs[1] := by simp [h2]
  obtain ⟨_, _, k0⟩ := h4 0 _ c0
  obtain ⟨_, _, k1⟩ := h4 1 _ c1
  simp only [Rel]
  refine ⟨g, 0, rfl, ?_⟩
  simp only [CellsG]
  refine ⟨⟨cs[0], ?_, ?_, rfl⟩, ⟨cs[1], ?_, ?_, rfl⟩, trivial⟩
  · simp [ImmOf, World.cell?, h1]
  · simp only [Rel]; exact cell_plain k0
  · simp [ImmOf, World.cell?, h1]
  · simp only [Rel]; exact cell_plain k1

section
variable {H : Type} {enc : TypeId × Value → H} {P : Program} {W : World}
/-- The package's own way to a returning call, with what is known of the variables handed on. -/
theorem returnsShaped {a : Assume} {C : Checked} {os : Os} {f : FuncId} {fn : Func} {s : OpenSpec} {k : (H : Type) → List (DataW H) → Bool} (hk : s.cond = some k) {F : Stop.Interp} {conds : List PathCond} {apart fresh handsOn again : Bool}
    (own : ownKnob C.prog.godebug = none) (started : os.Started) (noInit : C.prog.inits.idxOf? f = none) (hfn : C.prog.funcs[f]? = some fn)
    (witness : ∃ (w : World) (tape : Tape) (i : Input), w.os = os ∧ (w.forCall tape i).Shaped C.prog ∧ i.vars = [] ∧ Input.okWide C.prog (w.forCall tape i) .any w.heap.size f i ∧
      s.pre6 enc C.prog fn conds apart (w.forCall tape i).memory i.args ∧ a.holds C.prog (lone (Frame.enter C.prog f i.args .normal) [] (w.forCall tape i)))
    (contract : ∀ (W : World) (hS : W.ShapedOpen C.prog) (base : Nat) (args : Array Value) (ds gs : List (DataW H)) (before : List MemPlace),
      (∀ (j : Nat) t v, fn.params[j]? = some t → args[j]? = some v → Value.okWide C.prog W .any base t v) →
      DataW.Whole enc C.prog fn.params.toList s.vars apart W args.toList ds gs before →
      conds.all (PathCond.test C.prog ⟨fn.params.toList, ds, s.bare.plain.varTypes C.prog, gs⟩) = true → k H (ds ++ gs) = true →
      a.holds C.prog (lone (Frame.enter C.prog f args .normal) [] W) →
      Calls C.prog f args W fun e W' => ∃ v, e = .returned v ∧ (s.at F).post enc C.prog fn apart fresh handsOn again W args v W') :
    ReturnsInHanded a C os f .any (s.pre6 enc C.prog fn conds apart) ((s.at F).post enc C.prog fn apart fresh handsOn again) := by
  refine returnsInHanded_of_calls own started noInit witness ?_
  intro w tape i _ hS _ hok hpre hholds
  obtain ⟨_, _, _, fn', hfn', _, _, _, _, hval⟩ := hok
  obtain rfl : fn' = fn := Option.some.inj (hfn'.symm.trans hfn)
  obtain ⟨ds, gs, before, hw, hc, hkk⟩ := (OpenSpec.pre_some hk conds apart _ _).1 hpre.1
  refine (contract (w.forCall tape i) hS w.heap.size i.args ds gs before hval (DataW.Whole.of_heap (w' := w.forCall tape i) (by rfl) hw) hc hkk hholds).mono fun e W' ⟨v, he, hp⟩ => ?_
  subst he
  exact ChangeSpec.post_blind hp

theorem law_stepG {X : Ctx} {f : FuncId} {fn : Func} {s : ChangeSpec} {apart fresh handsOn again : Bool} {args : Array Value} {ds gs : List (DataW H)} {before : List MemPlace} {cs : List CV}
    (hq : QCalls P X f cs (.bool true)) (hrel : RelL (ImmOf W) cs args.toList) (hglob : GlobOk X (ImmOf W))
    (hW : DataW.Whole enc P fn.params.toList s.vars apart W args.toList ds gs before) (hvars : s.vars = [])
    (hl : laidOutB P = true) (hm : mapsRowed P = true) (hz : ∀ t e, t < P.types.size → P.underlying t = some (.slice e) → 0 < P.cellsOf e) (hT : (fn.params.toList.all fun t => Nat.blt t P.types.size) = true)
    {tb : TypeId} (hr : fn.resultTypes = #[tb]) (hb : P.underlying tb = some .bool) (hfn : s.fn H (ds ++ gs) = { results := [.lit (.bool true)], args := ds }) :
    Calls P f args W fun e W' => ∃ v, e = .returned v ∧ s.post enc P fn apart fresh handsOn again W args v W' := by
  have h := hq.2 (ImmOf W) W args.toList (imm_of W) hglob hrel
  rw [show args.toList.toArray = args from by simp] at h
  refine h.mono ?_
  rintro e W' ⟨u, G', rfl, hu, hg⟩
  simp only [Rel] at hu
  subst hu
  exact ⟨_, rfl, post_grows hW hvars hl hm hz (fun t ht => by have := List.all_eq_true.1 hT t ht; simpa [Nat.blt_eq] using this) hg hr hb rfl hfn⟩
end
end Go.Abs
namespace Go.Proofs
open Go.Abs
theorem Tryd.globOk {W : World} (hS : W.ShapedOpen Tryd.prog) : GlobOk Tryd.X (ImmOf W) := fun n v hv => by
  have h1 : getK n [(0, .ip [.any, .any])] = some v := hv
  simp only [getK] at h1
  cases hn : Nat.beq 0 n with
  | false => rw [hn] at h1; cases h1
  | true =>
    rw [hn] at h1
    obtain rfl := Nat.eq_of_beq_eq_true hn
    cases h1
    exact glob_two hS (zero := #[.slice none 0 0, .bool false]) (t := 27) (by kernel_rfl) (by kernel_rfl) (by kernel_rfl) rfl
end Go.Proofs
