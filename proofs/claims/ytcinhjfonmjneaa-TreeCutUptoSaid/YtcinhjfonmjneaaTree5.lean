/- What node of package tree's reader and Decode answer. -/
import Derived.Test.YtcinhjfonmjneaaTree4
set_option linter.unusedVariables false
set_option linter.unusedSimpArgs false
namespace Go.Proofs
open Go.Abs

theorem rdX_zero (s : List UInt8) (k : Int) : rdX 0 s k = ⟨nd0, [], k + 1, 4⟩ := rfl
theorem rdX_many (g : Nat) (s : List UInt8) (k : Int) (h : k + 1 > 300) : rdX (g + 1) s k = ⟨nd0, [], k + 1, 4⟩ := by simp only [rdX, if_pos h]
theorem rdX_nil (g : Nat) (k : Int) (h : ¬ (k + 1 > 300)) : rdX (g + 1) [] k = ⟨nd0, [], k + 1, 1⟩ := by simp only [rdX, if_neg h]
theorem rdX_cons (g : Nat) (c : UInt8) (s : List UInt8) (k : Int) (h : ¬ (k + 1 > 300)) : rdX (g + 1) (c :: s) k = rdBodyX (rdX g) c.toNat s (k + 1) := by simp only [rdX, if_neg h]
theorem body0 (f : List UInt8 → Int → RX) (s : List UInt8) (k : Int) : rdBodyX f 0 s k = ⟨.mk 0 (numVal s) 0 [] [], numRest s, k, numErr s⟩ := rfl
theorem body1_bad (f : List UInt8 → Int → RX) (s : List UInt8) (k : Int) (h : numVal s < 0 ∨ numVal s > 200 ∨ numVal s > (numRest s).length) : rdBodyX f 1 s k = ⟨.mk 1 0 0 [] [], [], k, 1⟩ := by simp only [rdBodyX, if_pos h]; rfl
theorem body1_good (f : List UInt8 → Int → RX) (s : List UInt8) (k : Int) (h : ¬ (numVal s < 0 ∨ numVal s > 200 ∨ numVal s > (numRest s).length)) : rdBodyX f 1 s k = ⟨.mk 1 0 0 ((numRest s).take (numVal s).toNat) [], (numRest s).drop (numVal s).toNat, k, numErr s⟩ := by simp only [rdBodyX, if_neg h]; rfl
theorem body2_nil (f : List UInt8 → Int → RX) (k : Int) : rdBodyX f 2 [] k = ⟨.mk 2 0 0 [] [], [], k, 1⟩ := rfl
theorem body2_good (f : List UInt8 → Int → RX) (p : UInt8) (s : List UInt8) (k : Int) (h : primP p.toNat = true) : rdBodyX f 2 (p :: s) k = rdArgsX f 2 p.toNat s k := by simp [rdBodyX, h]
theorem body2_bad (f : List UInt8 → Int → RX) (p : UInt8) (s : List UInt8) (k : Int) (h : primP p.toNat = false) : rdBodyX f 2 (p :: s) k = ⟨.mk 2 0 p.toNat [] [], [], k, 1⟩ := by simp [rdBodyX, h]
theorem body3 (f : List UInt8 → Int → RX) (s : List UInt8) (k : Int) : rdBodyX f 3 s k = rdArgsX f 3 0 s k := rfl
theorem body_no (f : List UInt8 → Int → RX) (c : Nat) (s : List UInt8) (k : Int) (h : c > 3) : rdBodyX f c s k = ⟨.mk c 0 0 [] [], [], k, 1⟩ := by
  simp only [rdBodyX]; rw [if_neg (by omega), if_neg (by omega), if_neg (by omega), if_neg (by omega)]
theorem args_no (f : List UInt8 → Int → RX) (kind p : Int) (s : List UInt8) (k : Int) (h : numErr s ≠ 0 ∨ numVal s < 0) : rdArgsX f kind p s k = ⟨.mk kind 0 p [] [], [], k, 1⟩ := by simp only [rdArgsX, if_pos h]
theorem args_go (f : List UInt8 → Int → RX) (kind p : Int) (s : List UInt8) (k : Int) (h : ¬ (numErr s ≠ 0 ∨ numVal s < 0)) : rdArgsX f kind p s k = ⟨.mk kind 0 p [] (rdRowX f (numVal s).toNat (numRest s) k 0).1, (rdRowX f (numVal s).toNat (numRest s) k 0).2.1, (rdRowX f (numVal s).toNat (numRest s) k 0).2.2.1, (rdRowX f (numVal s).toNat (numRest s) k 0).2.2.2⟩ := by simp only [rdArgsX, if_neg h]
theorem rowX_zero (f : List UInt8 → Int → RX) (s : List UInt8) (k e : Int) : rdRowX f 0 s k e = ([], s, k, e) := rfl
theorem rowX_err (f : List UInt8 → Int → RX) (v : Nat) (s : List UInt8) (k e : Int) (h : e ≠ 0) : rdRowX f v s k e = ([], s, k, e) := by
  cases v with
  | zero => rfl
  | succ v => simp only [rdRowX, if_pos h]
theorem rowX_more (f : List UInt8 → Int → RX) (v : Nat) (s : List UInt8) (k : Int) : rdRowX f (v + 1) s k 0 = ((f s k).n :: (rdRowX f v (f s k).s (f s k).k (f s k).e).1, (rdRowX f v (f s k).s (f s k).k (f s k).e).2) := by simp [rdRowX]
theorem numVal_bound {s : List UInt8} (h : numErr s = 0) : -maxI ≤ numVal s ∧ numVal s ≤ maxI := by
  cases hn : takeNum s with
  | none => rw [(num_none hn).2] at h; simp at h
  | some x =>
    obtain ⟨n, r⟩ := x
    rw [(num_some hn).1]
    exact (takeNum_some hn).2
theorem numErr_cases (s : List UInt8) : numErr s = 0 ∨ numErr s = 1 ∧ numRest s = [] := by
  cases hn : takeNum s with
  | none => right; exact ⟨(num_none hn).2, (num_none hn).1⟩
  | some x => left; exact (num_some hn).2.2
theorem number_err (k e : Int) (he : e ≠ 0) : ECalls Try.prog Try.X 133 [.box [.c (.str []), .c (.int .i64 k), .c (.int .i64 e)]] [.c (.int .i64 0)] [(0, [.c (.str []), .c (.int .i64 k), .c (.int .i64 e)])] := by
  have h1 := byte_err k e he
  refine ECalls.ofL Try.func133 rfl (fun args w => Try.call133 args w) (Nat.le_of_ble_eq_true rfl) [(0, .ptr 1000000 0)] [(1000000, [.c (.str []), .c (.int .i64 k), .c (.int .i64 e)])] [] [1000000] rfl rfl fun β => ?_; have hf := Try.func133
  repeat' (first
    | refine AK.runP Try.hX Try.mixed 300 rfl ?_
    | refine AK.condTe rfl (by first | with_reducible assumption | (simp only [cond_true, cond_false, Bool.not_true, Bool.not_false, bne_self_eq_false, Int.reduceBNe, Int.reduceBEq]; with_reducible assumption)) ?_
    | refine AK.condFe rfl (by first | with_reducible assumption | (simp only [cond_true, cond_false, Bool.not_true, Bool.not_false, bne_self_eq_false, Int.reduceBNe, Int.reduceBEq]; with_reducible assumption)) ?_
    | (refine AK.condS rfl (fun h => ?_) (fun h => ?_) <;> first | (cases h; done) | rw [h] | skip)
    | refine AK.retQ Try.hX hf rfl rfl ?_
    | refine AK.retE Try.hX hf rfl rfl rfl rfl ?_ (by with_reducible rfl)
    | refine AK.retE Try.hX hf rfl rfl rfl rfl ?_ ?_
    | refine AK.endE Try.hX hf rfl rfl rfl rfl ?_ (by with_reducible rfl)
    | refine AK.endE Try.hX hf rfl rfl rfl rfl ?_ ?_
    | refine AK.region Try.mixed rfl ?_
    | refine AOps.done ?_
    | refine AOps.runS Try.hX kn rfl ?_
    | refine AOps.calle kn rfl rfl (h1) rfl (by (repeat' (first | exact rfl | exact trivial | refine ⟨_, _, rfl, ?_, ?_⟩ | refine ⟨_, _, _, rfl, rfl, ?_, ?_⟩)); done) rfl rfl rfl rfl rfl rfl rfl rfl rfl rfl rfl rfl rfl rfl ?_
    | refine AOps.box kn rfl rfl rfl rfl rfl rfl ?_
    | refine AOps.alloc Try.hX kn rfl rfl rfl rfl rfl rfl rfl ?_
    | refine AOps.store Try.hX kn rfl rfl rfl rfl rfl rfl rfl rfl rfl rfl rfl ?_
    | refine AOps.buildSlice Try.hX kn rfl rfl rfl rfl rfl rfl rfl rfl rfl rfl rfl rfl ?_
    | refine AOps.append Try.hX kn rfl rfl rfl rfl rfl rfl rfl rfl rfl rfl rfl rfl rfl rfl rfl rfl rfl rfl rfl rfl rfl ?_ ?_
    | refine AOps.toStr Try.hX kn rfl rfl rfl rfl rfl rfl rfl rfl rfl rfl rfl (by first | exact rfl | exact byte1 _) rfl ?_
    | refine AOps.buildArr Try.hX kn rfl rfl rfl rfl rfl rfl rfl rfl ?_
    | refine AOps.indexArr Try.hX kn rfl rfl rfl rfl rfl rfl rfl rfl rfl rfl rfl rfl ?_
    | refine AOps.runP1 Try.hX kn rfl rfl ?_
    | (refine AOps.splitT rfl rfl rfl (by first | with_reducible assumption | (simp only [cond_true, cond_false, Bool.not_true, Bool.not_false, bne_self_eq_false, Int.reduceBNe, Int.reduceBEq]; with_reducible assumption)) (fun h => ?_) <;> (fail_if_success (cases h; done)) <;> rw [h])
    | (refine AOps.splitF rfl rfl rfl (by first | with_reducible assumption | (simp only [cond_true, cond_false, Bool.not_true, Bool.not_false, bne_self_eq_false, Int.reduceBNe, Int.reduceBEq]; with_reducible assumption)) (fun h => ?_) <;> (fail_if_success (cases h; done)) <;> rw [h])
    | (refine AOps.split rfl rfl rfl (fun h => ?_) (fun h => ?_) <;> (fail_if_success (cases h; done)) <;> rw [h])
    | refine AOps.drawn (by kernel_rfl) ?_)
  refine AK.loopE (α := Unit) (fun _ => True) (fun _ => 0)
    (fun _ => [(3, .c (.int .i64 0)), (4, .c (.bool (decide ((0 : Nat) / 64 % 2 = 1)))), (5, .c (.int .i64 ((0 % 64 : Nat) : Int))), (0, .ptr 1000000 0)])
    (fun _ => [(1000000, [.c (.str []), .c (.int .i64 k), .c (.int .i64 e)])]) (fun _ => []) [1000000] ()
    trivial ⟨.inl rfl, .inl (congrArg (fun z => some (AV.c (CV.bool z))) (and64 (c := 0) (by omega))), .inl (congrArg (fun z => some (AV.c (CV.int .i64 z))) (and63 (a := 0) (by omega))), .inl rfl, trivial⟩ ⟨rfl, trivial⟩ trivial rfl rfl rfl ?_
  rintro _ _ ih
  clear ih
  repeat' (first
    | refine AK.runP Try.hX Try.mixed 300 rfl ?_
    | refine AK.condTe rfl (by first | with_reducible assumption | (simp only [cond_true, cond_false, Bool.not_true, Bool.not_false, bne_self_eq_false, Int.reduceBNe, Int.reduceBEq]; with_reducible assumption)) ?_
    | refine AK.condFe rfl (by first | with_reducible assumption | (simp only [cond_true, cond_false, Bool.not_true, Bool.not_false, bne_self_eq_false, Int.reduceBNe, Int.reduceBEq]; with_reducible assumption)) ?_
    | (refine AK.condS rfl (fun h => ?_) (fun h => ?_) <;> first | (cases h; done) | rw [h] | skip)
    | refine AK.retQ Try.hX hf rfl rfl ?_
    | refine AK.retE Try.hX hf rfl rfl rfl rfl ?_ (by with_reducible rfl)
    | refine AK.retE Try.hX hf rfl rfl rfl rfl ?_ ?_
    | refine AK.endE Try.hX hf rfl rfl rfl rfl ?_ (by with_reducible rfl)
    | refine AK.endE Try.hX hf rfl rfl rfl rfl ?_ ?_
    | refine AK.region Try.mixed rfl ?_
    | refine AOps.done ?_
    | refine AOps.runS Try.hX kn rfl ?_
    | refine AOps.box kn rfl rfl rfl rfl rfl rfl ?_
    | refine AOps.alloc Try.hX kn rfl rfl rfl rfl rfl rfl rfl ?_
    | refine AOps.store Try.hX kn rfl rfl rfl rfl rfl rfl rfl rfl rfl rfl rfl ?_
    | refine AOps.buildSlice Try.hX kn rfl rfl rfl rfl rfl rfl rfl rfl rfl rfl rfl rfl ?_
    | refine AOps.append Try.hX kn rfl rfl rfl rfl rfl rfl rfl rfl rfl rfl rfl rfl rfl rfl rfl rfl rfl rfl rfl rfl rfl ?_ ?_
    | refine AOps.toStr Try.hX kn rfl rfl rfl rfl rfl rfl rfl rfl rfl rfl rfl (by first | exact rfl | exact byte1 _) rfl ?_
    | refine AOps.buildArr Try.hX kn rfl rfl rfl rfl rfl rfl rfl rfl ?_
    | refine AOps.indexArr Try.hX kn rfl rfl rfl rfl rfl rfl rfl rfl rfl rfl rfl rfl ?_
    | refine AOps.runP1 Try.hX kn rfl rfl ?_
    | (refine AOps.splitT rfl rfl rfl (by first | with_reducible assumption | (simp only [cond_true, cond_false, Bool.not_true, Bool.not_false, bne_self_eq_false, Int.reduceBNe, Int.reduceBEq]; with_reducible assumption)) (fun h => ?_) <;> (fail_if_success (cases h; done)) <;> rw [h])
    | (refine AOps.splitF rfl rfl rfl (by first | with_reducible assumption | (simp only [cond_true, cond_false, Bool.not_true, Bool.not_false, bne_self_eq_false, Int.reduceBNe, Int.reduceBEq]; with_reducible assumption)) (fun h => ?_) <;> (fail_if_success (cases h; done)) <;> rw [h])
    | (refine AOps.split rfl rfl rfl (fun h => ?_) (fun h => ?_) <;> (fail_if_success (cases h; done)) <;> rw [h])
    | refine AOps.drawn (by kernel_rfl) ?_)
  all_goals rfl

attribute [local irreducible] AK AOps QCalls ECalls rdX rdBodyX rdArgsX rdRowX numVal numRest numErr primP

set_option maxHeartbeats 0 in
theorem rdnode_calls : ∀ (g : Nat) (s : List UInt8) (k : Int), g ≤ 24 → 0 ≤ k → k ≤ 300 →
    ECalls Try.prog Try.X 108 [.box [.c (.str s), .c (.int .i64 k), .c (.int .i64 0)], .v (.c (.int .i64 (25 - (g : Int))))] [.c (encNd (rdX g s k).n)] [(0, [.c (.str (rdX g s k).s), .c (.int .i64 (rdX g s k).k), .c (.int .i64 (rdX g s k).e)])]
  | 0, s, k, hg, hk0, hk => by
    rw [rdX_zero]
    have e1 : IntKind.i64.wrap (k + 1) = k + 1 := w64 (by omega) (by omega)
    have h1 := bad_zero s (k + 1) 4
    rw [← e1] at h1
    refine ECalls.ofL Try.func108 rfl (fun args w => Try.call108 args w) (Nat.le_of_ble_eq_true rfl) [(0, .ptr 1000000 0), (1, .c (.int .i64 25))] [(1000000, [.c (.str s), .c (.int .i64 k), .c (.int .i64 0)])] [] [1000000] rfl rfl fun β => ?_; have hf := Try.func108
    repeat' (first
      | refine AK.runP Try.hX Try.mixed 300 rfl ?_
      | refine AK.condTe rfl (by first | with_reducible assumption | (simp only [cond_true, cond_false, Bool.not_true, Bool.not_false, bne_self_eq_false, Int.reduceBNe, Int.reduceBEq]; with_reducible assumption)) ?_
      | refine AK.condFe rfl (by first | with_reducible assumption | (simp only [cond_true, cond_false, Bool.not_true, Bool.not_false, bne_self_eq_false, Int.reduceBNe, Int.reduceBEq]; with_reducible assumption)) ?_
      | (refine AK.condS rfl (fun h => ?_) (fun h => ?_) <;> first | (cases h; done) | rw [h] | skip)
      | refine AK.retQ Try.hX hf rfl rfl ?_
      | refine AK.retE Try.hX hf rfl rfl rfl rfl ?_ (by with_reducible rfl)
      | refine AK.retE Try.hX hf rfl rfl rfl rfl ?_ ?_
      | refine AK.endE Try.hX hf rfl rfl rfl rfl ?_ (by with_reducible rfl)
      | refine AK.endE Try.hX hf rfl rfl rfl rfl ?_ ?_
      | refine AK.region Try.mixed rfl ?_
      | refine AOps.done ?_
      | refine AOps.runS Try.hX kn rfl ?_
      | refine AOps.calle kn rfl rfl (h1) rfl ⟨_, _, _, rfl, rfl, ⟨_, _, rfl, rfl, ⟨_, _, rfl, rfl, ⟨_, _, rfl, rfl, rfl⟩⟩⟩, ⟨_, _, rfl, rfl, rfl⟩⟩ rfl rfl rfl rfl rfl rfl rfl rfl rfl rfl rfl rfl rfl rfl ?_
      | refine AOps.box kn rfl rfl rfl rfl rfl rfl ?_
      | refine AOps.alloc Try.hX kn rfl rfl rfl rfl rfl rfl rfl ?_
      | refine AOps.store Try.hX kn rfl rfl rfl rfl rfl rfl rfl rfl rfl rfl rfl ?_
      | refine AOps.buildSlice Try.hX kn rfl rfl rfl rfl rfl rfl rfl rfl rfl rfl rfl rfl ?_
      | refine AOps.append Try.hX kn rfl rfl rfl rfl rfl rfl rfl rfl rfl rfl rfl rfl rfl rfl rfl rfl rfl rfl rfl rfl rfl ?_ ?_
      | refine AOps.toStr Try.hX kn rfl rfl rfl rfl rfl rfl rfl rfl rfl rfl rfl (by first | exact rfl | exact byte1 _) rfl ?_
      | refine AOps.buildArr Try.hX kn rfl rfl rfl rfl rfl rfl rfl rfl ?_
      | refine AOps.indexArr Try.hX kn rfl rfl rfl rfl rfl rfl rfl rfl rfl rfl rfl rfl ?_
      | refine AOps.runP1 Try.hX kn rfl rfl ?_
      | (refine AOps.splitT rfl rfl rfl (by first | with_reducible assumption | (simp only [cond_true, cond_false, Bool.not_true, Bool.not_false, bne_self_eq_false, Int.reduceBNe, Int.reduceBEq]; with_reducible assumption)) (fun h => ?_) <;> (fail_if_success (cases h; done)) <;> rw [h])
      | (refine AOps.splitF rfl rfl rfl (by first | with_reducible assumption | (simp only [cond_true, cond_false, Bool.not_true, Bool.not_false, bne_self_eq_false, Int.reduceBNe, Int.reduceBEq]; with_reducible assumption)) (fun h => ?_) <;> (fail_if_success (cases h; done)) <;> rw [h])
      | (refine AOps.split rfl rfl rfl (fun h => ?_) (fun h => ?_) <;> (fail_if_success (cases h; done)) <;> rw [h])
      | refine AOps.drawn (by kernel_rfl) ?_)
    all_goals first | rfl | (rw [e1])
  | g + 1, s, k, hg, hk0, hk => by
    have e1 : IntKind.i64.wrap (k + 1) = k + 1 := w64 (by omega) (by omega)
    have hin : ∀ (s' : List UInt8) (k' : Int), 0 ≤ k' → k' ≤ 300 → ECalls Try.prog Try.X 108 [.box [.c (.str s'), .c (.int .i64 k'), .c (.int .i64 0)], .v (.c (.int .i64 (IntKind.i64.wrap (25 - ((g + 1 : Nat) : Int) + 1))))] [.c (encNd (rdX g s' k').n)] [(0, [.c (.str (rdX g s' k').s), .c (.int .i64 (rdX g s' k').k), .c (.int .i64 (rdX g s' k').e)])] := by
      intro s' k' h0 h1
      rw [w64 (by omega) (by omega), show (25 - ((g + 1 : Nat) : Int) + 1) = 25 - (g : Int) from by omega]
      exact rdnode_calls g s' k' (by omega) h0 h1
    have c0 : decide ((25 - ((g + 1 : Nat) : Int)) > 24) = false := decide_eq_false (by omega)
    by_cases hmany : k + 1 > 300
    · rw [rdX_many _ _ _ hmany]
      have c1 : decide (IntKind.i64.wrap (k + 1) > 300) = true := decide_eq_true (by rw [e1]; exact hmany)
      have h1 := bad_zero s (IntKind.i64.wrap (k + 1)) 4
      refine ECalls.ofL Try.func108 rfl (fun args w => Try.call108 args w) (Nat.le_of_ble_eq_true rfl) [(0, .ptr 1000000 0), (1, .c (.int .i64 (25 - ((g + 1 : Nat) : Int))))] [(1000000, [.c (.str s), .c (.int .i64 k), .c (.int .i64 0)])] [] [1000000] rfl rfl fun β => ?_; have hf := Try.func108
      repeat' (first
        | refine AK.runP Try.hX Try.mixed 300 rfl ?_
        | refine AK.condTe rfl (by first | with_reducible assumption | (simp only [cond_true, cond_false, Bool.not_true, Bool.not_false, bne_self_eq_false, Int.reduceBNe, Int.reduceBEq]; with_reducible assumption)) ?_
        | refine AK.condFe rfl (by first | with_reducible assumption | (simp only [cond_true, cond_false, Bool.not_true, Bool.not_false, bne_self_eq_false, Int.reduceBNe, Int.reduceBEq]; with_reducible assumption)) ?_
        | (refine AK.condS rfl (fun h => ?_) (fun h => ?_) <;> first | (cases h; done) | rw [h] | skip)
        | refine AK.retQ Try.hX hf rfl rfl ?_
        | refine AK.retE Try.hX hf rfl rfl rfl rfl ?_ (by with_reducible rfl)
        | refine AK.retE Try.hX hf rfl rfl rfl rfl ?_ ?_
        | refine AK.endE Try.hX hf rfl rfl rfl rfl ?_ (by with_reducible rfl)
        | refine AK.endE Try.hX hf rfl rfl rfl rfl ?_ ?_
        | refine AK.region Try.mixed rfl ?_
        | refine AOps.done ?_
        | refine AOps.runS Try.hX kn rfl ?_
        | refine AOps.calle kn rfl rfl (h1) rfl ⟨_, _, _, rfl, rfl, ⟨_, _, rfl, rfl, ⟨_, _, rfl, rfl, ⟨_, _, rfl, rfl, rfl⟩⟩⟩, ⟨_, _, rfl, rfl, rfl⟩⟩ rfl rfl rfl rfl rfl rfl rfl rfl rfl rfl rfl rfl rfl rfl ?_
        | refine AOps.box kn rfl rfl rfl rfl rfl rfl ?_
        | refine AOps.alloc Try.hX kn rfl rfl rfl rfl rfl rfl rfl ?_
        | refine AOps.store Try.hX kn rfl rfl rfl rfl rfl rfl rfl rfl rfl rfl rfl ?_
        | refine AOps.buildSlice Try.hX kn rfl rfl rfl rfl rfl rfl rfl rfl rfl rfl rfl rfl ?_
        | refine AOps.append Try.hX kn rfl rfl rfl rfl rfl rfl rfl rfl rfl rfl rfl rfl rfl rfl rfl rfl rfl rfl rfl rfl rfl ?_ ?_
        | refine AOps.toStr Try.hX kn rfl rfl rfl rfl rfl rfl rfl rfl rfl rfl rfl (by first | exact rfl | exact byte1 _) rfl ?_
        | refine AOps.buildArr Try.hX kn rfl rfl rfl rfl rfl rfl rfl rfl ?_
        | refine AOps.indexArr Try.hX kn rfl rfl rfl rfl rfl rfl rfl rfl rfl rfl rfl rfl ?_
        | refine AOps.runP1 Try.hX kn rfl rfl ?_
        | (refine AOps.splitT rfl rfl rfl (by first | with_reducible assumption | (simp only [cond_true, cond_false, Bool.not_true, Bool.not_false, bne_self_eq_false, Int.reduceBNe, Int.reduceBEq]; with_reducible assumption)) (fun h => ?_) <;> (fail_if_success (cases h; done)) <;> rw [h])
        | (refine AOps.splitF rfl rfl rfl (by first | with_reducible assumption | (simp only [cond_true, cond_false, Bool.not_true, Bool.not_false, bne_self_eq_false, Int.reduceBNe, Int.reduceBEq]; with_reducible assumption)) (fun h => ?_) <;> (fail_if_success (cases h; done)) <;> rw [h])
        | (refine AOps.split rfl rfl rfl (fun h => ?_) (fun h => ?_) <;> (fail_if_success (cases h; done)) <;> rw [h])
        | refine AOps.drawn (by kernel_rfl) ?_)
      all_goals first | rfl | (rw [e1])
    have c1 : decide (IntKind.i64.wrap (k + 1) > 300) = false := decide_eq_false (by rw [e1]; exact hmany)
    cases s with
    | nil =>
      rw [rdX_nil _ _ hmany]
      have h1 := byte_nil (IntKind.i64.wrap (k + 1))
      have h2 := number_err (IntKind.i64.wrap (k + 1)) 1 (by omega)
      refine ECalls.ofL Try.func108 rfl (fun args w => Try.call108 args w) (Nat.le_of_ble_eq_true rfl) [(0, .ptr 1000000 0), (1, .c (.int .i64 (25 - ((g + 1 : Nat) : Int))))] [(1000000, [.c (.str []), .c (.int .i64 k), .c (.int .i64 0)])] [] [1000000] rfl rfl fun β => ?_; have hf := Try.func108
      repeat' (first
        | refine AK.runP Try.hX Try.mixed 300 rfl ?_
        | refine AK.condTe rfl (by first | with_reducible assumption | (simp only [cond_true, cond_false, Bool.not_true, Bool.not_false, bne_self_eq_false, Int.reduceBNe, Int.reduceBEq]; with_reducible assumption)) ?_
        | refine AK.condFe rfl (by first | with_reducible assumption | (simp only [cond_true, cond_false, Bool.not_true, Bool.not_false, bne_self_eq_false, Int.reduceBNe, Int.reduceBEq]; with_reducible assumption)) ?_
        | (refine AK.condS rfl (fun h => ?_) (fun h => ?_) <;> first | (cases h; done) | rw [h] | skip)
        | refine AK.retQ Try.hX hf rfl rfl ?_
        | refine AK.retE Try.hX hf rfl rfl rfl rfl ?_ (by with_reducible rfl)
        | refine AK.retE Try.hX hf rfl rfl rfl rfl ?_ ?_
        | refine AK.endE Try.hX hf rfl rfl rfl rfl ?_ (by with_reducible rfl)
        | refine AK.endE Try.hX hf rfl rfl rfl rfl ?_ ?_
        | refine AK.region Try.mixed rfl ?_
        | refine AOps.done ?_
        | refine AOps.runS Try.hX kn rfl ?_
        | refine AOps.calle kn rfl rfl (h1) rfl ⟨_, _, _, rfl, rfl, ⟨_, _, rfl, rfl, ⟨_, _, rfl, rfl, ⟨_, _, rfl, rfl, rfl⟩⟩⟩, rfl⟩ rfl rfl rfl rfl rfl rfl rfl rfl rfl rfl rfl rfl rfl rfl ?_
        | refine AOps.calle kn rfl rfl (h2) rfl ⟨_, _, _, rfl, rfl, ⟨_, _, rfl, rfl, ⟨_, _, rfl, rfl, ⟨_, _, rfl, rfl, rfl⟩⟩⟩, rfl⟩ rfl rfl rfl rfl rfl rfl rfl rfl rfl rfl rfl rfl rfl rfl ?_
        | refine AOps.box kn rfl rfl rfl rfl rfl rfl ?_
        | refine AOps.alloc Try.hX kn rfl rfl rfl rfl rfl rfl rfl ?_
        | refine AOps.store Try.hX kn rfl rfl rfl rfl rfl rfl rfl rfl rfl rfl rfl ?_
        | refine AOps.buildSlice Try.hX kn rfl rfl rfl rfl rfl rfl rfl rfl rfl rfl rfl rfl ?_
        | refine AOps.append Try.hX kn rfl rfl rfl rfl rfl rfl rfl rfl rfl rfl rfl rfl rfl rfl rfl rfl rfl rfl rfl rfl rfl ?_ ?_
        | refine AOps.toStr Try.hX kn rfl rfl rfl rfl rfl rfl rfl rfl rfl rfl rfl (by first | exact rfl | exact byte1 _) rfl ?_
        | refine AOps.buildArr Try.hX kn rfl rfl rfl rfl rfl rfl rfl rfl ?_
        | refine AOps.indexArr Try.hX kn rfl rfl rfl rfl rfl rfl rfl rfl rfl rfl rfl rfl ?_
        | refine AOps.runP1 Try.hX kn rfl rfl ?_
        | (refine AOps.splitT rfl rfl rfl (by first | with_reducible assumption | (simp only [cond_true, cond_false, Bool.not_true, Bool.not_false, bne_self_eq_false, Int.reduceBNe, Int.reduceBEq]; with_reducible assumption)) (fun h => ?_) <;> (fail_if_success (cases h; done)) <;> rw [h])
        | (refine AOps.splitF rfl rfl rfl (by first | with_reducible assumption | (simp only [cond_true, cond_false, Bool.not_true, Bool.not_false, bne_self_eq_false, Int.reduceBNe, Int.reduceBEq]; with_reducible assumption)) (fun h => ?_) <;> (fail_if_success (cases h; done)) <;> rw [h])
        | (refine AOps.split rfl rfl rfl (fun h => ?_) (fun h => ?_) <;> (fail_if_success (cases h; done)) <;> rw [h])
        | refine AOps.drawn (by kernel_rfl) ?_)
      all_goals first | rfl | (rw [e1])
    | cons c s =>
      rw [rdX_cons _ _ _ _ hmany]
      have hbyte := byte_cons c s (IntKind.i64.wrap (k + 1)) 0
      have hcb := c.toNat_lt
      generalize hq : c.toNat = q at hbyte hcb
      by_cases q0 : q = 0
      · subst q0
        rw [body0]
        have hnum := number_calls s (IntKind.i64.wrap (k + 1))
        refine ECalls.ofL Try.func108 rfl (fun args w => Try.call108 args w) (Nat.le_of_ble_eq_true rfl) [(0, .ptr 1000000 0), (1, .c (.int .i64 (25 - ((g + 1 : Nat) : Int))))] [(1000000, [.c (.str (c :: s)), .c (.int .i64 k), .c (.int .i64 0)])] [] [1000000] rfl rfl fun β => ?_; have hf := Try.func108
        repeat' (first
          | refine AK.runP Try.hX Try.mixed 300 rfl ?_
          | refine AK.condTe rfl (by first | with_reducible assumption | (simp only [cond_true, cond_false, Bool.not_true, Bool.not_false, bne_self_eq_false, Int.reduceBNe, Int.reduceBEq]; with_reducible assumption)) ?_
          | refine AK.condFe rfl (by first | with_reducible assumption | (simp only [cond_true, cond_false, Bool.not_true, Bool.not_false, bne_self_eq_false, Int.reduceBNe, Int.reduceBEq]; with_reducible assumption)) ?_
          | (refine AK.condS rfl (fun h => ?_) (fun h => ?_) <;> first | (cases h; done) | rw [h] | skip)
          | refine AK.retQ Try.hX hf rfl rfl ?_
          | refine AK.retE Try.hX hf rfl rfl rfl rfl ?_ (by with_reducible rfl)
          | refine AK.retE Try.hX hf rfl rfl rfl rfl ?_ ?_
          | refine AK.endE Try.hX hf rfl rfl rfl rfl ?_ (by with_reducible rfl)
          | refine AK.endE Try.hX hf rfl rfl rfl rfl ?_ ?_
          | refine AK.region Try.mixed rfl ?_
          | refine AOps.done ?_
          | refine AOps.runS Try.hX kn rfl ?_
          | refine AOps.calle kn rfl rfl (hbyte) rfl ⟨_, _, _, rfl, rfl, ⟨_, _, rfl, rfl, ⟨_, _, rfl, rfl, ⟨_, _, rfl, rfl, rfl⟩⟩⟩, rfl⟩ rfl rfl rfl rfl rfl rfl rfl rfl rfl rfl rfl rfl rfl rfl ?_
          | refine AOps.calle kn rfl rfl (hnum) rfl ⟨_, _, _, rfl, rfl, ⟨_, _, rfl, rfl, ⟨_, _, rfl, rfl, ⟨_, _, rfl, rfl, rfl⟩⟩⟩, rfl⟩ rfl rfl rfl rfl rfl rfl rfl rfl rfl rfl rfl rfl rfl rfl ?_
          | refine AOps.box kn rfl rfl rfl rfl rfl rfl ?_
          | refine AOps.alloc Try.hX kn rfl rfl rfl rfl rfl rfl rfl ?_
          | refine AOps.store Try.hX kn rfl rfl rfl rfl rfl rfl rfl rfl rfl rfl rfl ?_
          | refine AOps.buildSlice Try.hX kn rfl rfl rfl rfl rfl rfl rfl rfl rfl rfl rfl rfl ?_
          | refine AOps.append Try.hX kn rfl rfl rfl rfl rfl rfl rfl rfl rfl rfl rfl rfl rfl rfl rfl rfl rfl rfl rfl rfl rfl ?_ ?_
          | refine AOps.toStr Try.hX kn rfl rfl rfl rfl rfl rfl rfl rfl rfl rfl rfl (by first | exact rfl | exact byte1 _) rfl ?_
          | refine AOps.buildArr Try.hX kn rfl rfl rfl rfl rfl rfl rfl rfl ?_
          | refine AOps.indexArr Try.hX kn rfl rfl rfl rfl rfl rfl rfl rfl rfl rfl rfl rfl ?_
          | refine AOps.runP1 Try.hX kn rfl rfl ?_
          | (refine AOps.splitT rfl rfl rfl (by first | with_reducible assumption | (simp only [cond_true, cond_false, Bool.not_true, Bool.not_false, bne_self_eq_false, Int.reduceBNe, Int.reduceBEq]; with_reducible assumption)) (fun h => ?_) <;> (fail_if_success (cases h; done)) <;> rw [h])
          | (refine AOps.splitF rfl rfl rfl (by first | with_reducible assumption | (simp only [cond_true, cond_false, Bool.not_true, Bool.not_false, bne_self_eq_false, Int.reduceBNe, Int.reduceBEq]; with_reducible assumption)) (fun h => ?_) <;> (fail_if_success (cases h; done)) <;> rw [h])
          | (refine AOps.split rfl rfl rfl (fun h => ?_) (fun h => ?_) <;> (fail_if_success (cases h; done)) <;> rw [h])
          | refine AOps.drawn (by kernel_rfl) ?_)
        all_goals first | rfl | (rw [e1])
      by_cases q1 : q = 1
      · subst q1
        have hnum := number_calls s (IntKind.i64.wrap (k + 1))
        by_cases hbad : numVal s < 0 ∨ numVal s > 200 ∨ numVal s > (numRest s).length
        · rw [body1_bad _ _ _ hbad]
          have h4 : ECalls Try.prog Try.X 109 [.box [.c (.str (numRest s)), .c (.int .i64 (IntKind.i64.wrap (k + 1))), .c (.int .i64 (numErr s))], .v (.c (.int .i64 1))] [] [(0, [.c (.str []), .c (.int .i64 (IntKind.i64.wrap (k + 1))), .c (.int .i64 1)])] := by
            rcases numErr_cases s with hne | ⟨hne, hnr⟩
            · rw [hne]; exact bad_zero _ _ _
            · rw [hne, hnr]; exact bad_set _ _ _ _ (by omega)
          rcases bool_of (numVal s < 0) with ⟨d1, b1⟩ | ⟨d1, b1⟩ <;> rcases bool_of (numVal s > 200) with ⟨d2, b2⟩ | ⟨d2, b2⟩ <;> rcases bool_of (numVal s > (numRest s).length) with ⟨d3, b3⟩ | ⟨d3, b3⟩
          all_goals first | (exfalso; omega) | skip
          all_goals
            refine ECalls.ofL Try.func108 rfl (fun args w => Try.call108 args w) (Nat.le_of_ble_eq_true rfl) [(0, .ptr 1000000 0), (1, .c (.int .i64 (25 - ((g + 1 : Nat) : Int))))] [(1000000, [.c (.str (c :: s)), .c (.int .i64 k), .c (.int .i64 0)])] [] [1000000] rfl rfl fun β => ?_; have hf := Try.func108
            repeat' (first
              | refine AK.runP Try.hX Try.mixed 300 rfl ?_
              | refine AK.condTe rfl (by first | with_reducible assumption | (simp only [cond_true, cond_false, Bool.not_true, Bool.not_false, bne_self_eq_false, Int.reduceBNe, Int.reduceBEq]; with_reducible assumption)) ?_
              | refine AK.condFe rfl (by first | with_reducible assumption | (simp only [cond_true, cond_false, Bool.not_true, Bool.not_false, bne_self_eq_false, Int.reduceBNe, Int.reduceBEq]; with_reducible assumption)) ?_
              | (refine AK.condS rfl (fun h => ?_) (fun h => ?_) <;> first | (cases h; done) | rw [h] | skip)
              | refine AK.retQ Try.hX hf rfl rfl ?_
              | refine AK.retE Try.hX hf rfl rfl rfl rfl ?_ (by with_reducible rfl)
              | refine AK.retE Try.hX hf rfl rfl rfl rfl ?_ ?_
              | refine AK.endE Try.hX hf rfl rfl rfl rfl ?_ (by with_reducible rfl)
              | refine AK.endE Try.hX hf rfl rfl rfl rfl ?_ ?_
              | refine AK.region Try.mixed rfl ?_
              | refine AOps.done ?_
              | refine AOps.runS Try.hX kn rfl ?_
              | refine AOps.calle kn rfl rfl (hbyte) rfl ⟨_, _, _, rfl, rfl, ⟨_, _, rfl, rfl, ⟨_, _, rfl, rfl, ⟨_, _, rfl, rfl, rfl⟩⟩⟩, rfl⟩ rfl rfl rfl rfl rfl rfl rfl rfl rfl rfl rfl rfl rfl rfl ?_
              | refine AOps.calle kn rfl rfl (hnum) rfl ⟨_, _, _, rfl, rfl, ⟨_, _, rfl, rfl, ⟨_, _, rfl, rfl, ⟨_, _, rfl, rfl, rfl⟩⟩⟩, rfl⟩ rfl rfl rfl rfl rfl rfl rfl rfl rfl rfl rfl rfl rfl rfl ?_
              | refine AOps.calle kn rfl rfl (h4) rfl ⟨_, _, _, rfl, rfl, ⟨_, _, rfl, rfl, ⟨_, _, rfl, rfl, ⟨_, _, rfl, rfl, rfl⟩⟩⟩, ⟨_, _, rfl, rfl, rfl⟩⟩ rfl rfl rfl rfl rfl rfl rfl rfl rfl rfl rfl rfl rfl rfl ?_
              | refine AOps.box kn rfl rfl rfl rfl rfl rfl ?_
              | refine AOps.alloc Try.hX kn rfl rfl rfl rfl rfl rfl rfl ?_
              | refine AOps.store Try.hX kn rfl rfl rfl rfl rfl rfl rfl rfl rfl rfl rfl ?_
              | refine AOps.buildSlice Try.hX kn rfl rfl rfl rfl rfl rfl rfl rfl rfl rfl rfl rfl ?_
              | refine AOps.append Try.hX kn rfl rfl rfl rfl rfl rfl rfl rfl rfl rfl rfl rfl rfl rfl rfl rfl rfl rfl rfl rfl rfl ?_ ?_
              | refine AOps.toStr Try.hX kn rfl rfl rfl rfl rfl rfl rfl rfl rfl rfl rfl (by first | exact rfl | exact byte1 _) rfl ?_
              | refine AOps.buildArr Try.hX kn rfl rfl rfl rfl rfl rfl rfl rfl ?_
              | refine AOps.indexArr Try.hX kn rfl rfl rfl rfl rfl rfl rfl rfl rfl rfl rfl rfl ?_
              | refine AOps.runP1 Try.hX kn rfl rfl ?_
              | (refine AOps.splitT rfl rfl rfl (by first | with_reducible assumption | (simp only [cond_true, cond_false, Bool.not_true, Bool.not_false, bne_self_eq_false, Int.reduceBNe, Int.reduceBEq]; with_reducible assumption)) (fun h => ?_) <;> (fail_if_success (cases h; done)) <;> rw [h])
              | (refine AOps.splitF rfl rfl rfl (by first | with_reducible assumption | (simp only [cond_true, cond_false, Bool.not_true, Bool.not_false, bne_self_eq_false, Int.reduceBNe, Int.reduceBEq]; with_reducible assumption)) (fun h => ?_) <;> (fail_if_success (cases h; done)) <;> rw [h])
              | (refine AOps.split rfl rfl rfl (fun h => ?_) (fun h => ?_) <;> (fail_if_success (cases h; done)) <;> rw [h])
              | refine AOps.drawn (by kernel_rfl) ?_)
            all_goals first | rfl | (rw [e1])
        · rw [body1_good _ _ _ hbad]
          have d1 : decide (numVal s < 0) = false := decide_eq_false (by omega)
          have d2 : decide (numVal s > 200) = false := decide_eq_false (by omega)
          have d3 : decide (numVal s > (numRest s).length) = false := decide_eq_false (by omega)
          obtain ⟨v, hv⟩ : ∃ v : Nat, numVal s = v := ⟨(numVal s).toNat, by omega⟩
          have hvl : v ≤ (numRest s).length := by omega
          rw [hv] at hnum d1 d2 d3 ⊢
          have d12 : (bif decide ((v : Int) < 0) then true else decide ((v : Int) > 200)) = false := by rw [d1, d2]; rfl
          refine ECalls.ofL Try.func108 rfl (fun args w => Try.call108 args w) (Nat.le_of_ble_eq_true rfl) [(0, .ptr 1000000 0), (1, .c (.int .i64 (25 - ((g + 1 : Nat) : Int))))] [(1000000, [.c (.str (c :: s)), .c (.int .i64 k), .c (.int .i64 0)])] [] [1000000] rfl rfl fun β => ?_; have hf := Try.func108
          repeat' (first
            | refine AK.runP Try.hX Try.mixed 300 rfl ?_
            | refine AK.condTe rfl (by first | with_reducible assumption | (simp only [cond_true, cond_false, Bool.not_true, Bool.not_false, bne_self_eq_false, Int.reduceBNe, Int.reduceBEq]; with_reducible assumption)) ?_
            | refine AK.condFe rfl (by first | with_reducible assumption | (simp only [cond_true, cond_false, Bool.not_true, Bool.not_false, bne_self_eq_false, Int.reduceBNe, Int.reduceBEq]; with_reducible assumption)) ?_
            | (refine AK.condS rfl (fun h => ?_) (fun h => ?_) <;> first | (cases h; done) | rw [h] | skip)
            | refine AK.retQ Try.hX hf rfl rfl ?_
            | refine AK.retE Try.hX hf rfl rfl rfl rfl ?_ (by with_reducible rfl)
            | refine AK.retE Try.hX hf rfl rfl rfl rfl ?_ ?_
            | refine AK.endE Try.hX hf rfl rfl rfl rfl ?_ (by with_reducible rfl)
            | refine AK.endE Try.hX hf rfl rfl rfl rfl ?_ ?_
            | refine AK.region Try.mixed rfl ?_
            | refine AOps.done ?_
            | refine AOps.runS Try.hX kn rfl ?_
            | refine AOps.calle kn rfl rfl (hbyte) rfl ⟨_, _, _, rfl, rfl, ⟨_, _, rfl, rfl, ⟨_, _, rfl, rfl, ⟨_, _, rfl, rfl, rfl⟩⟩⟩, rfl⟩ rfl rfl rfl rfl rfl rfl rfl rfl rfl rfl rfl rfl rfl rfl ?_
            | refine AOps.calle kn rfl rfl (hnum) rfl ⟨_, _, _, rfl, rfl, ⟨_, _, rfl, rfl, ⟨_, _, rfl, rfl, ⟨_, _, rfl, rfl, rfl⟩⟩⟩, rfl⟩ rfl rfl rfl rfl rfl rfl rfl rfl rfl rfl rfl rfl rfl rfl ?_
            | refine AOps.sliceStr Try.hX kn rfl rfl rfl rfl rfl rfl (l := none) (h := some v) rfl rfl hvl (Nat.zero_le _) ?_
            | refine AOps.sliceStr Try.hX kn rfl rfl rfl rfl rfl rfl (l := some v) (h := none) rfl rfl (Nat.le_refl _) hvl ?_
            | refine AOps.box kn rfl rfl rfl rfl rfl rfl ?_
            | refine AOps.alloc Try.hX kn rfl rfl rfl rfl rfl rfl rfl ?_
            | refine AOps.store Try.hX kn rfl rfl rfl rfl rfl rfl rfl rfl rfl rfl rfl ?_
            | refine AOps.buildSlice Try.hX kn rfl rfl rfl rfl rfl rfl rfl rfl rfl rfl rfl rfl ?_
            | refine AOps.append Try.hX kn rfl rfl rfl rfl rfl rfl rfl rfl rfl rfl rfl rfl rfl rfl rfl rfl rfl rfl rfl rfl rfl ?_ ?_
            | refine AOps.toStr Try.hX kn rfl rfl rfl rfl rfl rfl rfl rfl rfl rfl rfl (by first | exact rfl | exact byte1 _) rfl ?_
            | refine AOps.buildArr Try.hX kn rfl rfl rfl rfl rfl rfl rfl rfl ?_
            | refine AOps.indexArr Try.hX kn rfl rfl rfl rfl rfl rfl rfl rfl rfl rfl rfl rfl ?_
            | refine AOps.runP1 Try.hX kn rfl rfl ?_
            | (refine AOps.splitT rfl rfl rfl (by first | with_reducible assumption | (simp only [cond_true, cond_false, Bool.not_true, Bool.not_false, bne_self_eq_false, Int.reduceBNe, Int.reduceBEq]; with_reducible assumption)) (fun h => ?_) <;> (fail_if_success (cases h; done)) <;> rw [h])
            | (refine AOps.splitF rfl rfl rfl (by first | with_reducible assumption | (simp only [cond_true, cond_false, Bool.not_true, Bool.not_false, bne_self_eq_false, Int.reduceBNe, Int.reduceBEq]; with_reducible assumption)) (fun h => ?_) <;> (fail_if_success (cases h; done)) <;> rw [h])
            | (refine AOps.split rfl rfl rfl (fun h => ?_) (fun h => ?_) <;> (fail_if_success (cases h; done)) <;> rw [h])
            | refine AOps.drawn (by kernel_rfl) ?_)
          all_goals first | rfl | (rw [e1]; done) | (rw [e1]; simp; done) | (simp [e1]; done)
      by_cases q2 : q = 2
      · subst q2
        cases s with
        | nil =>
          rw [body2_nil]
          have h1 := byte_err (IntKind.i64.wrap (k + 1)) 1 (by omega)
          have h2 := byte_nil (IntKind.i64.wrap (k + 1))
          have hp0 : primP 0 = false := by decide +kernel
          have hprim := prim_calls 0
          rw [hp0] at hprim
          have h3 := number_err (IntKind.i64.wrap (k + 1)) 1 (by omega)
          have h4 := bad_set [] (IntKind.i64.wrap (k + 1)) 1 1 (by omega)
          refine ECalls.ofL Try.func108 rfl (fun args w => Try.call108 args w) (Nat.le_of_ble_eq_true rfl) [(0, .ptr 1000000 0), (1, .c (.int .i64 (25 - ((g + 1 : Nat) : Int))))] [(1000000, [.c (.str (c :: [])), .c (.int .i64 k), .c (.int .i64 0)])] [] [1000000] rfl rfl fun β => ?_; have hf := Try.func108
          repeat' (first
            | refine AK.runP Try.hX Try.mixed 300 rfl ?_
            | refine AK.condTe rfl (by first | with_reducible assumption | (simp only [cond_true, cond_false, Bool.not_true, Bool.not_false, bne_self_eq_false, Int.reduceBNe, Int.reduceBEq]; with_reducible assumption)) ?_
            | refine AK.condFe rfl (by first | with_reducible assumption | (simp only [cond_true, cond_false, Bool.not_true, Bool.not_false, bne_self_eq_false, Int.reduceBNe, Int.reduceBEq]; with_reducible assumption)) ?_
            | (refine AK.condS rfl (fun h => ?_) (fun h => ?_) <;> first | (cases h; done) | rw [h] | skip)
            | refine AK.retQ Try.hX hf rfl rfl ?_
            | refine AK.retE Try.hX hf rfl rfl rfl rfl ?_ (by with_reducible rfl)
            | refine AK.retE Try.hX hf rfl rfl rfl rfl ?_ ?_
            | refine AK.endE Try.hX hf rfl rfl rfl rfl ?_ (by with_reducible rfl)
            | refine AK.endE Try.hX hf rfl rfl rfl rfl ?_ ?_
            | refine AK.region Try.mixed rfl ?_
            | refine AOps.done ?_
            | refine AOps.runS Try.hX kn rfl ?_
            | refine AOps.calle kn rfl rfl (hbyte) rfl ⟨_, _, _, rfl, rfl, ⟨_, _, rfl, rfl, ⟨_, _, rfl, rfl, ⟨_, _, rfl, rfl, rfl⟩⟩⟩, rfl⟩ rfl rfl rfl rfl rfl rfl rfl rfl rfl rfl rfl rfl rfl rfl ?_
            | refine AOps.calle kn rfl rfl (h2) rfl ⟨_, _, _, rfl, rfl, ⟨_, _, rfl, rfl, ⟨_, _, rfl, rfl, ⟨_, _, rfl, rfl, rfl⟩⟩⟩, rfl⟩ rfl rfl rfl rfl rfl rfl rfl rfl rfl rfl rfl rfl rfl rfl ?_
            | refine AOps.callq kn rfl rfl rfl rfl (hprim) ?_
            | refine AOps.calle kn rfl rfl (h3) rfl ⟨_, _, _, rfl, rfl, ⟨_, _, rfl, rfl, ⟨_, _, rfl, rfl, ⟨_, _, rfl, rfl, rfl⟩⟩⟩, rfl⟩ rfl rfl rfl rfl rfl rfl rfl rfl rfl rfl rfl rfl rfl rfl ?_
            | refine AOps.calle kn rfl rfl (h4) rfl ⟨_, _, _, rfl, rfl, ⟨_, _, rfl, rfl, ⟨_, _, rfl, rfl, ⟨_, _, rfl, rfl, rfl⟩⟩⟩, ⟨_, _, rfl, rfl, rfl⟩⟩ rfl rfl rfl rfl rfl rfl rfl rfl rfl rfl rfl rfl rfl rfl ?_
            | refine AOps.box kn rfl rfl rfl rfl rfl rfl ?_
            | refine AOps.alloc Try.hX kn rfl rfl rfl rfl rfl rfl rfl ?_
            | refine AOps.store Try.hX kn rfl rfl rfl rfl rfl rfl rfl rfl rfl rfl rfl ?_
            | refine AOps.buildSlice Try.hX kn rfl rfl rfl rfl rfl rfl rfl rfl rfl rfl rfl rfl ?_
            | refine AOps.append Try.hX kn rfl rfl rfl rfl rfl rfl rfl rfl rfl rfl rfl rfl rfl rfl rfl rfl rfl rfl rfl rfl rfl ?_ ?_
            | refine AOps.toStr Try.hX kn rfl rfl rfl rfl rfl rfl rfl rfl rfl rfl rfl (by first | exact rfl | exact byte1 _) rfl ?_
            | refine AOps.buildArr Try.hX kn rfl rfl rfl rfl rfl rfl rfl rfl ?_
            | refine AOps.indexArr Try.hX kn rfl rfl rfl rfl rfl rfl rfl rfl rfl rfl rfl rfl ?_
            | refine AOps.runP1 Try.hX kn rfl rfl ?_
            | (refine AOps.splitT rfl rfl rfl (by first | with_reducible assumption | (simp only [cond_true, cond_false, Bool.not_true, Bool.not_false, bne_self_eq_false, Int.reduceBNe, Int.reduceBEq]; with_reducible assumption)) (fun h => ?_) <;> (fail_if_success (cases h; done)) <;> rw [h])
            | (refine AOps.splitF rfl rfl rfl (by first | with_reducible assumption | (simp only [cond_true, cond_false, Bool.not_true, Bool.not_false, bne_self_eq_false, Int.reduceBNe, Int.reduceBEq]; with_reducible assumption)) (fun h => ?_) <;> (fail_if_success (cases h; done)) <;> rw [h])
            | (refine AOps.split rfl rfl rfl (fun h => ?_) (fun h => ?_) <;> (fail_if_success (cases h; done)) <;> rw [h])
            | refine AOps.drawn (by kernel_rfl) ?_)
          refine AK.loopE (α := Unit) (fun _ => True) (fun _ => 0)
            (fun _ => [(7, .c (.int .i64 0)), (0, .ptr 1000000 0), (1, .c (.int .i64 (25 - ((g + 1 : Nat) : Int)))), (4, .ptr 4 0), (5, .ptr 5 0)])
            (fun _ => [(4, [.c (.int .i64 0), .c (.int .i64 0), .c (.int .i64 0), .c (.str []), .own .exact 5 []]), (5, [.c (.int .i64 ((2 : Nat) : Int)), .c (.int .i64 0), .c (.int .i64 0), .c (.str []), .own .exact 5 []]), (1000000, [.c (.str []), .c (.int .i64 (IntKind.i64.wrap (k + 1))), .c (.int .i64 1)])]) (fun _ => []) [4, 5, 1000000] ()
            trivial ⟨.inl rfl, .inl rfl, .inl rfl, .inl rfl, .inl rfl, trivial⟩ ⟨rfl, rfl, rfl, trivial⟩ trivial rfl rfl rfl ?_
          rintro _ _ ih
          clear ih
          repeat' (first
            | refine AK.runP Try.hX Try.mixed 300 rfl ?_
            | refine AK.condTe rfl (by first | with_reducible assumption | (simp only [cond_true, cond_false, Bool.not_true, Bool.not_false, bne_self_eq_false, Int.reduceBNe, Int.reduceBEq]; with_reducible assumption)) ?_
            | refine AK.condFe rfl (by first | with_reducible assumption | (simp only [cond_true, cond_false, Bool.not_true, Bool.not_false, bne_self_eq_false, Int.reduceBNe, Int.reduceBEq]; with_reducible assumption)) ?_
            | (refine AK.condS rfl (fun h => ?_) (fun h => ?_) <;> first | (cases h; done) | rw [h] | skip)
            | refine AK.retQ Try.hX hf rfl rfl ?_
            | refine AK.retE Try.hX hf rfl rfl rfl rfl ?_ (by with_reducible rfl)
            | refine AK.retE Try.hX hf rfl rfl rfl rfl ?_ ?_
            | refine AK.endE Try.hX hf rfl rfl rfl rfl ?_ (by with_reducible rfl)
            | refine AK.endE Try.hX hf rfl rfl rfl rfl ?_ ?_
            | refine AK.region Try.mixed rfl ?_
            | refine AOps.done ?_
            | refine AOps.runS Try.hX kn rfl ?_
            | refine AOps.box kn rfl rfl rfl rfl rfl rfl ?_
            | refine AOps.alloc Try.hX kn rfl rfl rfl rfl rfl rfl rfl ?_
            | refine AOps.store Try.hX kn rfl rfl rfl rfl rfl rfl rfl rfl rfl rfl rfl ?_
            | refine AOps.buildSlice Try.hX kn rfl rfl rfl rfl rfl rfl rfl rfl rfl rfl rfl rfl ?_
            | refine AOps.append Try.hX kn rfl rfl rfl rfl rfl rfl rfl rfl rfl rfl rfl rfl rfl rfl rfl rfl rfl rfl rfl rfl rfl ?_ ?_
            | refine AOps.toStr Try.hX kn rfl rfl rfl rfl rfl rfl rfl rfl rfl rfl rfl (by first | exact rfl | exact byte1 _) rfl ?_
            | refine AOps.buildArr Try.hX kn rfl rfl rfl rfl rfl rfl rfl rfl ?_
            | refine AOps.indexArr Try.hX kn rfl rfl rfl rfl rfl rfl rfl rfl rfl rfl rfl rfl ?_
            | refine AOps.runP1 Try.hX kn rfl rfl ?_
            | (refine AOps.splitT rfl rfl rfl (by first | with_reducible assumption | (simp only [cond_true, cond_false, Bool.not_true, Bool.not_false, bne_self_eq_false, Int.reduceBNe, Int.reduceBEq]; with_reducible assumption)) (fun h => ?_) <;> (fail_if_success (cases h; done)) <;> rw [h])
            | (refine AOps.splitF rfl rfl rfl (by first | with_reducible assumption | (simp only [cond_true, cond_false, Bool.not_true, Bool.not_false, bne_self_eq_false, Int.reduceBNe, Int.reduceBEq]; with_reducible assumption)) (fun h => ?_) <;> (fail_if_success (cases h; done)) <;> rw [h])
            | (refine AOps.split rfl rfl rfl (fun h => ?_) (fun h => ?_) <;> (fail_if_success (cases h; done)) <;> rw [h])
            | refine AOps.drawn (by kernel_rfl) ?_)
          all_goals first | rfl | (rw [e1])
        | cons p s =>
          have hpb := byte_cons p s (IntKind.i64.wrap (k + 1)) 0
          have hpr := p.toNat_lt
          cases hp : primP p.toNat with
          | false =>
            rw [body2_bad _ _ _ _ hp]
            have hprim := prim_calls p.toNat
            rw [hp] at hprim
            have h3 := number_err (IntKind.i64.wrap (k + 1)) 1 (by omega)
            have h4 := bad_zero s (IntKind.i64.wrap (k + 1)) 1
            refine ECalls.ofL Try.func108 rfl (fun args w => Try.call108 args w) (Nat.le_of_ble_eq_true rfl) [(0, .ptr 1000000 0), (1, .c (.int .i64 (25 - ((g + 1 : Nat) : Int))))] [(1000000, [.c (.str (c :: p :: s)), .c (.int .i64 k), .c (.int .i64 0)])] [] [1000000] rfl rfl fun β => ?_; have hf := Try.func108
            repeat' (first
              | refine AK.runP Try.hX Try.mixed 300 rfl ?_
              | refine AK.condTe rfl (by first | with_reducible assumption | (simp only [cond_true, cond_false, Bool.not_true, Bool.not_false, bne_self_eq_false, Int.reduceBNe, Int.reduceBEq]; with_reducible assumption)) ?_
              | refine AK.condFe rfl (by first | with_reducible assumption | (simp only [cond_true, cond_false, Bool.not_true, Bool.not_false, bne_self_eq_false, Int.reduceBNe, Int.reduceBEq]; with_reducible assumption)) ?_
              | (refine AK.condS rfl (fun h => ?_) (fun h => ?_) <;> first | (cases h; done) | rw [h] | skip)
              | refine AK.retQ Try.hX hf rfl rfl ?_
              | refine AK.retE Try.hX hf rfl rfl rfl rfl ?_ (by with_reducible rfl)
              | refine AK.retE Try.hX hf rfl rfl rfl rfl ?_ ?_
              | refine AK.endE Try.hX hf rfl rfl rfl rfl ?_ (by with_reducible rfl)
              | refine AK.endE Try.hX hf rfl rfl rfl rfl ?_ ?_
              | refine AK.region Try.mixed rfl ?_
              | refine AOps.done ?_
              | refine AOps.runS Try.hX kn rfl ?_
              | refine AOps.calle kn rfl rfl (hbyte) rfl ⟨_, _, _, rfl, rfl, ⟨_, _, rfl, rfl, ⟨_, _, rfl, rfl, ⟨_, _, rfl, rfl, rfl⟩⟩⟩, rfl⟩ rfl rfl rfl rfl rfl rfl rfl rfl rfl rfl rfl rfl rfl rfl ?_
              | refine AOps.calle kn rfl rfl (hpb) rfl ⟨_, _, _, rfl, rfl, ⟨_, _, rfl, rfl, ⟨_, _, rfl, rfl, ⟨_, _, rfl, rfl, rfl⟩⟩⟩, rfl⟩ rfl rfl rfl rfl rfl rfl rfl rfl rfl rfl rfl rfl rfl rfl ?_
              | refine AOps.callq kn rfl rfl rfl rfl (hprim) ?_
              | refine AOps.calle kn rfl rfl (h3) rfl ⟨_, _, _, rfl, rfl, ⟨_, _, rfl, rfl, ⟨_, _, rfl, rfl, ⟨_, _, rfl, rfl, rfl⟩⟩⟩, rfl⟩ rfl rfl rfl rfl rfl rfl rfl rfl rfl rfl rfl rfl rfl rfl ?_
              | refine AOps.calle kn rfl rfl (h4) rfl ⟨_, _, _, rfl, rfl, ⟨_, _, rfl, rfl, ⟨_, _, rfl, rfl, ⟨_, _, rfl, rfl, rfl⟩⟩⟩, ⟨_, _, rfl, rfl, rfl⟩⟩ rfl rfl rfl rfl rfl rfl rfl rfl rfl rfl rfl rfl rfl rfl ?_
              | refine AOps.box kn rfl rfl rfl rfl rfl rfl ?_
              | refine AOps.alloc Try.hX kn rfl rfl rfl rfl rfl rfl rfl ?_
              | refine AOps.store Try.hX kn rfl rfl rfl rfl rfl rfl rfl rfl rfl rfl rfl ?_
              | refine AOps.buildSlice Try.hX kn rfl rfl rfl rfl rfl rfl rfl rfl rfl rfl rfl rfl ?_
              | refine AOps.append Try.hX kn rfl rfl rfl rfl rfl rfl rfl rfl rfl rfl rfl rfl rfl rfl rfl rfl rfl rfl rfl rfl rfl ?_ ?_
              | refine AOps.toStr Try.hX kn rfl rfl rfl rfl rfl rfl rfl rfl rfl rfl rfl (by first | exact rfl | exact byte1 _) rfl ?_
              | refine AOps.buildArr Try.hX kn rfl rfl rfl rfl rfl rfl rfl rfl ?_
              | refine AOps.indexArr Try.hX kn rfl rfl rfl rfl rfl rfl rfl rfl rfl rfl rfl rfl ?_
              | refine AOps.runP1 Try.hX kn rfl rfl ?_
              | (refine AOps.splitT rfl rfl rfl (by first | with_reducible assumption | (simp only [cond_true, cond_false, Bool.not_true, Bool.not_false, bne_self_eq_false, Int.reduceBNe, Int.reduceBEq]; with_reducible assumption)) (fun h => ?_) <;> (fail_if_success (cases h; done)) <;> rw [h])
              | (refine AOps.splitF rfl rfl rfl (by first | with_reducible assumption | (simp only [cond_true, cond_false, Bool.not_true, Bool.not_false, bne_self_eq_false, Int.reduceBNe, Int.reduceBEq]; with_reducible assumption)) (fun h => ?_) <;> (fail_if_success (cases h; done)) <;> rw [h])
              | (refine AOps.split rfl rfl rfl (fun h => ?_) (fun h => ?_) <;> (fail_if_success (cases h; done)) <;> rw [h])
              | refine AOps.drawn (by kernel_rfl) ?_)
            refine AK.loopE (α := Unit) (fun _ => True) (fun _ => 0)
              (fun _ => [(7, .c (.int .i64 0)), (0, .ptr 1000000 0), (1, .c (.int .i64 (25 - ((g + 1 : Nat) : Int)))), (4, .ptr 4 0), (5, .ptr 5 0)])
              (fun _ => [(4, [.c (.int .i64 0), .c (.int .i64 0), .c (.int .i64 0), .c (.str []), .own .exact 5 []]), (5, [.c (.int .i64 ((2 : Nat) : Int)), .c (.int .i64 0), .c (.int .i64 ((p.toNat : Nat) : Int)), .c (.str []), .own .exact 5 []]), (1000000, [.c (.str []), .c (.int .i64 (IntKind.i64.wrap (k + 1))), .c (.int .i64 1)])]) (fun _ => []) [4, 5, 1000000] ()
              trivial ⟨.inl rfl, .inl rfl, .inl rfl, .inl rfl, .inl rfl, trivial⟩ ⟨rfl, rfl, rfl, trivial⟩ trivial rfl rfl rfl ?_
            rintro _ _ ih
            clear ih
            repeat' (first
              | refine AK.runP Try.hX Try.mixed 300 rfl ?_
              | refine AK.condTe rfl (by first | with_reducible assumption | (simp only [cond_true, cond_false, Bool.not_true, Bool.not_false, bne_self_eq_false, Int.reduceBNe, Int.reduceBEq]; with_reducible assumption)) ?_
              | refine AK.condFe rfl (by first | with_reducible assumption | (simp only [cond_true, cond_false, Bool.not_true, Bool.not_false, bne_self_eq_false, Int.reduceBNe, Int.reduceBEq]; with_reducible assumption)) ?_
              | (refine AK.condS rfl (fun h => ?_) (fun h => ?_) <;> first | (cases h; done) | rw [h] | skip)
              | refine AK.retQ Try.hX hf rfl rfl ?_
              | refine AK.retE Try.hX hf rfl rfl rfl rfl ?_ (by with_reducible rfl)
              | refine AK.retE Try.hX hf rfl rfl rfl rfl ?_ ?_
              | refine AK.endE Try.hX hf rfl rfl rfl rfl ?_ (by with_reducible rfl)
              | refine AK.endE Try.hX hf rfl rfl rfl rfl ?_ ?_
              | refine AK.region Try.mixed rfl ?_
              | refine AOps.done ?_
              | refine AOps.runS Try.hX kn rfl ?_
              | refine AOps.box kn rfl rfl rfl rfl rfl rfl ?_
              | refine AOps.alloc Try.hX kn rfl rfl rfl rfl rfl rfl rfl ?_
              | refine AOps.store Try.hX kn rfl rfl rfl rfl rfl rfl rfl rfl rfl rfl rfl ?_
              | refine AOps.buildSlice Try.hX kn rfl rfl rfl rfl rfl rfl rfl rfl rfl rfl rfl rfl ?_
              | refine AOps.append Try.hX kn rfl rfl rfl rfl rfl rfl rfl rfl rfl rfl rfl rfl rfl rfl rfl rfl rfl rfl rfl rfl rfl ?_ ?_
              | refine AOps.toStr Try.hX kn rfl rfl rfl rfl rfl rfl rfl rfl rfl rfl rfl (by first | exact rfl | exact byte1 _) rfl ?_
              | refine AOps.buildArr Try.hX kn rfl rfl rfl rfl rfl rfl rfl rfl ?_
              | refine AOps.indexArr Try.hX kn rfl rfl rfl rfl rfl rfl rfl rfl rfl rfl rfl rfl ?_
              | refine AOps.runP1 Try.hX kn rfl rfl ?_
              | (refine AOps.splitT rfl rfl rfl (by first | with_reducible assumption | (simp only [cond_true, cond_false, Bool.not_true, Bool.not_false, bne_self_eq_false, Int.reduceBNe, Int.reduceBEq]; with_reducible assumption)) (fun h => ?_) <;> (fail_if_success (cases h; done)) <;> rw [h])
              | (refine AOps.splitF rfl rfl rfl (by first | with_reducible assumption | (simp only [cond_true, cond_false, Bool.not_true, Bool.not_false, bne_self_eq_false, Int.reduceBNe, Int.reduceBEq]; with_reducible assumption)) (fun h => ?_) <;> (fail_if_success (cases h; done)) <;> rw [h])
              | (refine AOps.split rfl rfl rfl (fun h => ?_) (fun h => ?_) <;> (fail_if_success (cases h; done)) <;> rw [h])
              | refine AOps.drawn (by kernel_rfl) ?_)
            all_goals first | rfl | (rw [e1])
          | true =>
            rw [body2_good _ _ _ _ hp]
            have hprim := prim_calls p.toNat
            rw [hp] at hprim
            -- the arguments of a node
            have hnum := number_calls (s) (IntKind.i64.wrap (k + 1))
            rcases numErr_cases (s) with hne | ⟨hne, hnr⟩
            · have hvb := numVal_bound hne
              unfold maxI at hvb
              rw [hne] at hnum
              by_cases hv0 : numVal (s) < 0
              · rw [args_no _ _ _ _ _ (.inr hv0)]
                have c5 : decide (numVal (s) < 0) = true := decide_eq_true hv0
                have c6 : decide (numVal (s) > 0) = false := decide_eq_false (by omega)
                have h4 := bad_zero (numRest (s)) (IntKind.i64.wrap (k + 1)) 1
                refine ECalls.ofL Try.func108 rfl (fun args w => Try.call108 args w) (Nat.le_of_ble_eq_true rfl) [(0, .ptr 1000000 0), (1, .c (.int .i64 (25 - ((g + 1 : Nat) : Int))))] [(1000000, [.c (.str (c :: p :: s)), .c (.int .i64 k), .c (.int .i64 0)])] [] [1000000] rfl rfl fun β => ?_; have hf := Try.func108
                repeat' (first
                  | refine AK.runP Try.hX Try.mixed 300 rfl ?_
                  | refine AK.condTe rfl (by first | with_reducible assumption | (simp only [cond_true, cond_false, Bool.not_true, Bool.not_false, bne_self_eq_false, Int.reduceBNe, Int.reduceBEq]; with_reducible assumption)) ?_
                  | refine AK.condFe rfl (by first | with_reducible assumption | (simp only [cond_true, cond_false, Bool.not_true, Bool.not_false, bne_self_eq_false, Int.reduceBNe, Int.reduceBEq]; with_reducible assumption)) ?_
                  | (refine AK.condS rfl (fun h => ?_) (fun h => ?_) <;> first | (cases h; done) | rw [h] | skip)
                  | refine AK.retQ Try.hX hf rfl rfl ?_
                  | refine AK.retE Try.hX hf rfl rfl rfl rfl ?_ (by with_reducible rfl)
                  | refine AK.retE Try.hX hf rfl rfl rfl rfl ?_ ?_
                  | refine AK.endE Try.hX hf rfl rfl rfl rfl ?_ (by with_reducible rfl)
                  | refine AK.endE Try.hX hf rfl rfl rfl rfl ?_ ?_
                  | refine AK.region Try.mixed rfl ?_
                  | refine AOps.done ?_
                  | refine AOps.runS Try.hX kn rfl ?_
                  | refine AOps.calle kn rfl rfl (hbyte) rfl ⟨_, _, _, rfl, rfl, ⟨_, _, rfl, rfl, ⟨_, _, rfl, rfl, ⟨_, _, rfl, rfl, rfl⟩⟩⟩, rfl⟩ rfl rfl rfl rfl rfl rfl rfl rfl rfl rfl rfl rfl rfl rfl ?_
                  | refine AOps.calle kn rfl rfl (hpb) rfl ⟨_, _, _, rfl, rfl, ⟨_, _, rfl, rfl, ⟨_, _, rfl, rfl, ⟨_, _, rfl, rfl, rfl⟩⟩⟩, rfl⟩ rfl rfl rfl rfl rfl rfl rfl rfl rfl rfl rfl rfl rfl rfl ?_
                  | refine AOps.callq kn rfl rfl rfl rfl (hprim) ?_
                  | refine AOps.calle kn rfl rfl (hnum) rfl ⟨_, _, _, rfl, rfl, ⟨_, _, rfl, rfl, ⟨_, _, rfl, rfl, ⟨_, _, rfl, rfl, rfl⟩⟩⟩, rfl⟩ rfl rfl rfl rfl rfl rfl rfl rfl rfl rfl rfl rfl rfl rfl ?_
                  | refine AOps.calle kn rfl rfl (h4) rfl ⟨_, _, _, rfl, rfl, ⟨_, _, rfl, rfl, ⟨_, _, rfl, rfl, ⟨_, _, rfl, rfl, rfl⟩⟩⟩, ⟨_, _, rfl, rfl, rfl⟩⟩ rfl rfl rfl rfl rfl rfl rfl rfl rfl rfl rfl rfl rfl rfl ?_
                  | refine AOps.box kn rfl rfl rfl rfl rfl rfl ?_
                  | refine AOps.alloc Try.hX kn rfl rfl rfl rfl rfl rfl rfl ?_
                  | refine AOps.store Try.hX kn rfl rfl rfl rfl rfl rfl rfl rfl rfl rfl rfl ?_
                  | refine AOps.buildSlice Try.hX kn rfl rfl rfl rfl rfl rfl rfl rfl rfl rfl rfl rfl ?_
                  | refine AOps.append Try.hX kn rfl rfl rfl rfl rfl rfl rfl rfl rfl rfl rfl rfl rfl rfl rfl rfl rfl rfl rfl rfl rfl ?_ ?_
                  | refine AOps.toStr Try.hX kn rfl rfl rfl rfl rfl rfl rfl rfl rfl rfl rfl (by first | exact rfl | exact byte1 _) rfl ?_
                  | refine AOps.buildArr Try.hX kn rfl rfl rfl rfl rfl rfl rfl rfl ?_
                  | refine AOps.indexArr Try.hX kn rfl rfl rfl rfl rfl rfl rfl rfl rfl rfl rfl rfl ?_
                  | refine AOps.runP1 Try.hX kn rfl rfl ?_
                  | (refine AOps.splitT rfl rfl rfl (by first | with_reducible assumption | (simp only [cond_true, cond_false, Bool.not_true, Bool.not_false, bne_self_eq_false, Int.reduceBNe, Int.reduceBEq]; with_reducible assumption)) (fun h => ?_) <;> (fail_if_success (cases h; done)) <;> rw [h])
                  | (refine AOps.splitF rfl rfl rfl (by first | with_reducible assumption | (simp only [cond_true, cond_false, Bool.not_true, Bool.not_false, bne_self_eq_false, Int.reduceBNe, Int.reduceBEq]; with_reducible assumption)) (fun h => ?_) <;> (fail_if_success (cases h; done)) <;> rw [h])
                  | (refine AOps.split rfl rfl rfl (fun h => ?_) (fun h => ?_) <;> (fail_if_success (cases h; done)) <;> rw [h])
                  | refine AOps.drawn (by kernel_rfl) ?_)
                refine AK.loopE (α := Unit) (fun _ => True) (fun _ => 0)
                  (fun _ => [(7, .c (.int .i64 (numVal (s)))), (0, .ptr 1000000 0), (1, .c (.int .i64 (25 - ((g + 1 : Nat) : Int)))), (4, .ptr 4 0), (5, .ptr 5 0)])
                  (fun _ => [(4, [.c (.int .i64 0), .c (.int .i64 0), .c (.int .i64 0), .c (.str []), .own .exact 5 []]), (5, [.c (.int .i64 ((2 : Nat) : Int)), .c (.int .i64 0), .c (.int .i64 ((p.toNat : Nat) : Int)), .c (.str []), .own .exact 5 []]), (1000000, [.c (.str []), .c (.int .i64 (IntKind.i64.wrap (k + 1))), .c (.int .i64 1)])]) (fun _ => []) [4, 5, 1000000] ()
                  trivial ⟨.inl rfl, .inl rfl, .inl rfl, .inl rfl, .inl rfl, trivial⟩ ⟨rfl, rfl, rfl, trivial⟩ trivial rfl rfl rfl ?_
                rintro _ _ ih
                clear ih
                repeat' (first
                  | refine AK.runP Try.hX Try.mixed 300 rfl ?_
                  | refine AK.condTe rfl (by first | with_reducible assumption | (simp only [cond_true, cond_false, Bool.not_true, Bool.not_false, bne_self_eq_false, Int.reduceBNe, Int.reduceBEq]; with_reducible assumption)) ?_
                  | refine AK.condFe rfl (by first | with_reducible assumption | (simp only [cond_true, cond_false, Bool.not_true, Bool.not_false, bne_self_eq_false, Int.reduceBNe, Int.reduceBEq]; with_reducible assumption)) ?_
                  | (refine AK.condS rfl (fun h => ?_) (fun h => ?_) <;> first | (cases h; done) | rw [h] | skip)
                  | refine AK.retQ Try.hX hf rfl rfl ?_
                  | refine AK.retE Try.hX hf rfl rfl rfl rfl ?_ (by with_reducible rfl)
                  | refine AK.retE Try.hX hf rfl rfl rfl rfl ?_ ?_
                  | refine AK.endE Try.hX hf rfl rfl rfl rfl ?_ (by with_reducible rfl)
                  | refine AK.endE Try.hX hf rfl rfl rfl rfl ?_ ?_
                  | refine AK.region Try.mixed rfl ?_
                  | refine AOps.done ?_
                  | refine AOps.runS Try.hX kn rfl ?_
                  | refine AOps.box kn rfl rfl rfl rfl rfl rfl ?_
                  | refine AOps.alloc Try.hX kn rfl rfl rfl rfl rfl rfl rfl ?_
                  | refine AOps.store Try.hX kn rfl rfl rfl rfl rfl rfl rfl rfl rfl rfl rfl ?_
                  | refine AOps.buildSlice Try.hX kn rfl rfl rfl rfl rfl rfl rfl rfl rfl rfl rfl rfl ?_
                  | refine AOps.append Try.hX kn rfl rfl rfl rfl rfl rfl rfl rfl rfl rfl rfl rfl rfl rfl rfl rfl rfl rfl rfl rfl rfl ?_ ?_
                  | refine AOps.toStr Try.hX kn rfl rfl rfl rfl rfl rfl rfl rfl rfl rfl rfl (by first | exact rfl | exact byte1 _) rfl ?_
                  | refine AOps.buildArr Try.hX kn rfl rfl rfl rfl rfl rfl rfl rfl ?_
                  | refine AOps.indexArr Try.hX kn rfl rfl rfl rfl rfl rfl rfl rfl rfl rfl rfl rfl ?_
                  | refine AOps.runP1 Try.hX kn rfl rfl ?_
                  | (refine AOps.splitT rfl rfl rfl (by first | with_reducible assumption | (simp only [cond_true, cond_false, Bool.not_true, Bool.not_false, bne_self_eq_false, Int.reduceBNe, Int.reduceBEq]; with_reducible assumption)) (fun h => ?_) <;> (fail_if_success (cases h; done)) <;> rw [h])
                  | (refine AOps.splitF rfl rfl rfl (by first | with_reducible assumption | (simp only [cond_true, cond_false, Bool.not_true, Bool.not_false, bne_self_eq_false, Int.reduceBNe, Int.reduceBEq]; with_reducible assumption)) (fun h => ?_) <;> (fail_if_success (cases h; done)) <;> rw [h])
                  | (refine AOps.split rfl rfl rfl (fun h => ?_) (fun h => ?_) <;> (fail_if_success (cases h; done)) <;> rw [h])
                  | refine AOps.drawn (by kernel_rfl) ?_)
                all_goals first | rfl | (rw [e1])
              · rw [args_go _ _ _ _ _ (by rw [hne]; simp; omega)]
                have c5 : decide (numVal (s) < 0) = false := decide_eq_false hv0
                obtain ⟨V, hv⟩ : ∃ v : Nat, numVal (s) = v := ⟨(numVal (s)).toNat, by omega⟩
                rw [hv] at hnum c5
                have hvt : (numVal (s)).toNat = V := by omega
                rw [hvt]
                refine ECalls.ofL Try.func108 rfl (fun args w => Try.call108 args w) (Nat.le_of_ble_eq_true rfl) [(0, .ptr 1000000 0), (1, .c (.int .i64 (25 - ((g + 1 : Nat) : Int))))] [(1000000, [.c (.str (c :: p :: s)), .c (.int .i64 k), .c (.int .i64 0)])] [] [1000000] rfl rfl fun β => ?_; have hf := Try.func108
                repeat' (first
                  | refine AK.runP Try.hX Try.mixed 300 rfl ?_
                  | refine AK.condTe rfl (by first | with_reducible assumption | (simp only [cond_true, cond_false, Bool.not_true, Bool.not_false, bne_self_eq_false, Int.reduceBNe, Int.reduceBEq]; with_reducible assumption)) ?_
                  | refine AK.condFe rfl (by first | with_reducible assumption | (simp only [cond_true, cond_false, Bool.not_true, Bool.not_false, bne_self_eq_false, Int.reduceBNe, Int.reduceBEq]; with_reducible assumption)) ?_
                  | (refine AK.condS rfl (fun h => ?_) (fun h => ?_) <;> first | (cases h; done) | rw [h] | skip)
                  | refine AK.retQ Try.hX hf rfl rfl ?_
                  | refine AK.retE Try.hX hf rfl rfl rfl rfl ?_ (by with_reducible rfl)
                  | refine AK.retE Try.hX hf rfl rfl rfl rfl ?_ ?_
                  | refine AK.endE Try.hX hf rfl rfl rfl rfl ?_ (by with_reducible rfl)
                  | refine AK.endE Try.hX hf rfl rfl rfl rfl ?_ ?_
                  | refine AK.region Try.mixed rfl ?_
                  | refine AOps.done ?_
                  | refine AOps.runS Try.hX kn rfl ?_
                  | refine AOps.calle kn rfl rfl (hbyte) rfl ⟨_, _, _, rfl, rfl, ⟨_, _, rfl, rfl, ⟨_, _, rfl, rfl, ⟨_, _, rfl, rfl, rfl⟩⟩⟩, rfl⟩ rfl rfl rfl rfl rfl rfl rfl rfl rfl rfl rfl rfl rfl rfl ?_
                  | refine AOps.calle kn rfl rfl (hpb) rfl ⟨_, _, _, rfl, rfl, ⟨_, _, rfl, rfl, ⟨_, _, rfl, rfl, ⟨_, _, rfl, rfl, rfl⟩⟩⟩, rfl⟩ rfl rfl rfl rfl rfl rfl rfl rfl rfl rfl rfl rfl rfl rfl ?_
                  | refine AOps.callq kn rfl rfl rfl rfl (hprim) ?_
                  | refine AOps.calle kn rfl rfl (hnum) rfl ⟨_, _, _, rfl, rfl, ⟨_, _, rfl, rfl, ⟨_, _, rfl, rfl, ⟨_, _, rfl, rfl, rfl⟩⟩⟩, rfl⟩ rfl rfl rfl rfl rfl rfl rfl rfl rfl rfl rfl rfl rfl rfl ?_
                  | refine AOps.box kn rfl rfl rfl rfl rfl rfl ?_
                  | refine AOps.alloc Try.hX kn rfl rfl rfl rfl rfl rfl rfl ?_
                  | refine AOps.store Try.hX kn rfl rfl rfl rfl rfl rfl rfl rfl rfl rfl rfl ?_
                  | refine AOps.buildSlice Try.hX kn rfl rfl rfl rfl rfl rfl rfl rfl rfl rfl rfl rfl ?_
                  | refine AOps.append Try.hX kn rfl rfl rfl rfl rfl rfl rfl rfl rfl rfl rfl rfl rfl rfl rfl rfl rfl rfl rfl rfl rfl ?_ ?_
                  | refine AOps.toStr Try.hX kn rfl rfl rfl rfl rfl rfl rfl rfl rfl rfl rfl (by first | exact rfl | exact byte1 _) rfl ?_
                  | refine AOps.buildArr Try.hX kn rfl rfl rfl rfl rfl rfl rfl rfl ?_
                  | refine AOps.indexArr Try.hX kn rfl rfl rfl rfl rfl rfl rfl rfl rfl rfl rfl rfl ?_
                  | refine AOps.runP1 Try.hX kn rfl rfl ?_
                  | (refine AOps.splitT rfl rfl rfl (by first | with_reducible assumption | (simp only [cond_true, cond_false, Bool.not_true, Bool.not_false, bne_self_eq_false, Int.reduceBNe, Int.reduceBEq]; with_reducible assumption)) (fun h => ?_) <;> (fail_if_success (cases h; done)) <;> rw [h])
                  | (refine AOps.splitF rfl rfl rfl (by first | with_reducible assumption | (simp only [cond_true, cond_false, Bool.not_true, Bool.not_false, bne_self_eq_false, Int.reduceBNe, Int.reduceBEq]; with_reducible assumption)) (fun h => ?_) <;> (fail_if_success (cases h; done)) <;> rw [h])
                  | (refine AOps.split rfl rfl rfl (fun h => ?_) (fun h => ?_) <;> (fail_if_success (cases h; done)) <;> rw [h])
                  | refine AOps.drawn (by kernel_rfl) ?_)
                refine AK.ren [(4, 4), (5, 5), (1000000, 1000000)] [(5000, (0, none))] (env' := [(7, .c (.int .i64 (V : Nat))), (0, .ptr 1000000 0), (1, .c (.int .i64 (25 - ((g + 1 : Nat) : Int)))), (4, .ptr 4 0), (5, .ptr 5 0)])
                  (bs' := [(4, [.c (.int .i64 0), .c (.int .i64 0), .c (.int .i64 0), .c (.str []), .own .exact 5 []]), (5, [.c (.int .i64 ((2 : Nat) : Int)), .c (.int .i64 0), .c (.int .i64 ((p.toNat : Nat) : Int)), .c (.str []), .own (.tok 5000 0) 5 []]), (1000000, [.c (.str (numRest (s))), .c (.int .i64 (k + 1)), .c (.int .i64 0)])]) (ts' := [(5000, 0)]) (us' := [4, 5, 1000000, 5000])
                  ⟨⟨_, rfl, .inl rfl⟩, ⟨_, rfl, ⟨_, rfl, rfl⟩⟩, ⟨_, rfl, .inl rfl⟩, ⟨_, rfl, ⟨_, rfl, rfl⟩⟩, ⟨_, rfl, ⟨_, rfl, rfl⟩⟩, trivial⟩ ⟨⟨_, _, rfl, rfl, ⟨_, _, rfl, .inl rfl, ⟨_, _, rfl, .inl rfl, ⟨_, _, rfl, .inl rfl, ⟨_, _, rfl, .inl rfl, ⟨_, _, rfl, rfl, rfl⟩⟩⟩⟩⟩⟩, ⟨_, _, rfl, rfl, ⟨_, _, rfl, .inl rfl, ⟨_, _, rfl, .inl rfl, ⟨_, _, rfl, .inl rfl, ⟨_, _, rfl, .inl rfl, ⟨_, _, rfl, ⟨_, rfl, .inl ⟨rfl, _, rfl, .inr rfl⟩⟩, rfl⟩⟩⟩⟩⟩⟩, ⟨_, _, rfl, rfl, ⟨_, _, rfl, .inl rfl, ⟨_, _, rfl, .inl (congrArg (fun z => AV.c (.int .i64 z)) e1), ⟨_, _, rfl, .inl rfl, rfl⟩⟩⟩⟩, trivial⟩ rfl ?_
                refine AK.loopE (α := Nat × List Nd × List UInt8 × Int × Int) (fun z => rdRowX (rdX g) V (numRest (s)) (k + 1) 0 = (z.2.1 ++ (rdRowX (rdX g) z.1 z.2.2.1 z.2.2.2.1 z.2.2.2.2).1, (rdRowX (rdX g) z.1 z.2.2.1 z.2.2.2.1 z.2.2.2.2).2) ∧ 0 ≤ z.2.2.2.1 ∧ z.2.2.2.1 ≤ 301 ∧ (z.2.2.2.2 = 0 → z.2.2.2.1 ≤ 300) ∧ (z.2.1.length : Int) ≤ z.2.2.2.1 ∧ z.1 ≤ 1152921504606846976) (fun z => z.1)
                  (fun z => [(7, .c (.int .i64 (z.1 : Nat))), (0, .ptr 1000000 0), (1, .c (.int .i64 (25 - ((g + 1 : Nat) : Int)))), (4, .ptr 4 0), (5, .ptr 5 0)])
                  (fun z => [(4, [.c (.int .i64 0), .c (.int .i64 0), .c (.int .i64 0), .c (.str []), .own .exact 5 []]), (5, [.c (.int .i64 ((2 : Nat) : Int)), .c (.int .i64 0), .c (.int .i64 ((p.toNat : Nat) : Int)), .c (.str []), .own (.tok 5000 0) 5 (encNds z.2.1)]), (1000000, [.c (.str z.2.2.1), .c (.int .i64 z.2.2.2.1), .c (.int .i64 z.2.2.2.2)])]) (fun _ => [(5000, 0)]) [4, 5, 1000000, 5000] (V, [], numRest (s), k + 1, 0)
                  ⟨by simp, by show 0 ≤ k + 1; omega, by show k + 1 ≤ 301; omega, fun _ => by show k + 1 ≤ 300; omega, by show (0 : Int) ≤ k + 1; omega, by show V ≤ _; omega⟩ ⟨.inl rfl, .inl rfl, .inl rfl, .inl rfl, .inl rfl, trivial⟩ ⟨rfl, rfl, rfl, trivial⟩ ⟨rfl, trivial⟩ rfl rfl rfl ?_
                rintro ⟨v, acc, s', k', e'⟩ ⟨hinv, hk0', hk', hke, hal, hvb'⟩ ih
                simp only at hinv hk0' hk' hke hal hvb'
                by_cases he : e' = 0
                · subst he
                  have hk3 := hke rfl
                  cases v with
                  | zero =>
                    rw [rowX_zero, List.append_nil] at hinv
                    rw [hinv]
                    clear ih
                    repeat' (first
                      | refine AK.runP Try.hX Try.mixed 300 rfl ?_
                      | refine AK.condTe rfl (by first | with_reducible assumption | (simp only [cond_true, cond_false, Bool.not_true, Bool.not_false, bne_self_eq_false, Int.reduceBNe, Int.reduceBEq]; with_reducible assumption)) ?_
                      | refine AK.condFe rfl (by first | with_reducible assumption | (simp only [cond_true, cond_false, Bool.not_true, Bool.not_false, bne_self_eq_false, Int.reduceBNe, Int.reduceBEq]; with_reducible assumption)) ?_
                      | (refine AK.condS rfl (fun h => ?_) (fun h => ?_) <;> first | (cases h; done) | rw [h] | skip)
                      | refine AK.retQ Try.hX hf rfl rfl ?_
                      | refine AK.retE Try.hX hf rfl rfl rfl rfl ?_ (by with_reducible rfl)
                      | refine AK.retE Try.hX hf rfl rfl rfl rfl ?_ ?_
                      | refine AK.endE Try.hX hf rfl rfl rfl rfl ?_ (by with_reducible rfl)
                      | refine AK.endE Try.hX hf rfl rfl rfl rfl ?_ ?_
                      | refine AK.region Try.mixed rfl ?_
                      | refine AOps.done ?_
                      | refine AOps.runS Try.hX kn rfl ?_
                      | refine AOps.box kn rfl rfl rfl rfl rfl rfl ?_
                      | refine AOps.alloc Try.hX kn rfl rfl rfl rfl rfl rfl rfl ?_
                      | refine AOps.store Try.hX kn rfl rfl rfl rfl rfl rfl rfl rfl rfl rfl rfl ?_
                      | refine AOps.buildSlice Try.hX kn rfl rfl rfl rfl rfl rfl rfl rfl rfl rfl rfl rfl ?_
                      | refine AOps.append Try.hX kn rfl rfl rfl rfl rfl rfl rfl rfl rfl rfl rfl rfl rfl rfl rfl rfl rfl rfl rfl rfl rfl ?_ ?_
                      | refine AOps.toStr Try.hX kn rfl rfl rfl rfl rfl rfl rfl rfl rfl rfl rfl (by first | exact rfl | exact byte1 _) rfl ?_
                      | refine AOps.buildArr Try.hX kn rfl rfl rfl rfl rfl rfl rfl rfl ?_
                      | refine AOps.indexArr Try.hX kn rfl rfl rfl rfl rfl rfl rfl rfl rfl rfl rfl rfl ?_
                      | refine AOps.runP1 Try.hX kn rfl rfl ?_
                      | (refine AOps.splitT rfl rfl rfl (by first | with_reducible assumption | (simp only [cond_true, cond_false, Bool.not_true, Bool.not_false, bne_self_eq_false, Int.reduceBNe, Int.reduceBEq]; with_reducible assumption)) (fun h => ?_) <;> (fail_if_success (cases h; done)) <;> rw [h])
                      | (refine AOps.splitF rfl rfl rfl (by first | with_reducible assumption | (simp only [cond_true, cond_false, Bool.not_true, Bool.not_false, bne_self_eq_false, Int.reduceBNe, Int.reduceBEq]; with_reducible assumption)) (fun h => ?_) <;> (fail_if_success (cases h; done)) <;> rw [h])
                      | (refine AOps.split rfl rfl rfl (fun h => ?_) (fun h => ?_) <;> (fail_if_success (cases h; done)) <;> rw [h])
                      | refine AOps.drawn (by kernel_rfl) ?_)
                    all_goals rfl
                  | succ v =>
                    have c7 : decide (((v + 1 : Nat) : Int) > 0) = true := decide_eq_true (by omega)
                    have hq := hin s' k' hk0' hk3
                    have hle := rdX_le g s' k' hk0' hk3
                    rw [rowX_more] at hinv
                    rcases hx : rdX g s' k' with ⟨⟨y1, y2, y3, y4, y5⟩, s2, k2, e2⟩
                    rw [hx] at hq hle hinv
                    simp only at hq hle hinv
                    have e7 : IntKind.i64.wrap (((v + 1 : Nat) : Int) - 1) = (v : Int) := by rw [w64 (by omega) (by omega)]; omega
                    repeat' (first
                      | refine AK.runP Try.hX Try.mixed 300 rfl ?_
                      | refine AK.condTe rfl (by first | with_reducible assumption | (simp only [cond_true, cond_false, Bool.not_true, Bool.not_false, bne_self_eq_false, Int.reduceBNe, Int.reduceBEq]; with_reducible assumption)) ?_
                      | refine AK.condFe rfl (by first | with_reducible assumption | (simp only [cond_true, cond_false, Bool.not_true, Bool.not_false, bne_self_eq_false, Int.reduceBNe, Int.reduceBEq]; with_reducible assumption)) ?_
                      | (refine AK.condS rfl (fun h => ?_) (fun h => ?_) <;> first | (cases h; done) | rw [h] | skip)
                      | refine AK.retQ Try.hX hf rfl rfl ?_
                      | refine AK.retE Try.hX hf rfl rfl rfl rfl ?_ (by with_reducible rfl)
                      | refine AK.retE Try.hX hf rfl rfl rfl rfl ?_ ?_
                      | refine AK.endE Try.hX hf rfl rfl rfl rfl ?_ (by with_reducible rfl)
                      | refine AK.endE Try.hX hf rfl rfl rfl rfl ?_ ?_
                      | refine AK.region Try.mixed rfl ?_
                      | refine AOps.done ?_
                      | refine AOps.runS Try.hX kn rfl ?_
                      | refine AOps.calle kn rfl rfl (hq) rfl ⟨_, _, _, rfl, rfl, ⟨_, _, rfl, rfl, ⟨_, _, rfl, rfl, ⟨_, _, rfl, rfl, rfl⟩⟩⟩, ⟨_, _, rfl, rfl, rfl⟩⟩ rfl rfl rfl rfl rfl rfl rfl rfl rfl rfl rfl rfl rfl rfl ?_
                      | refine AOps.box kn rfl rfl rfl rfl rfl rfl ?_
                      | refine AOps.alloc Try.hX kn rfl rfl rfl rfl rfl rfl rfl ?_
                      | refine AOps.store Try.hX kn rfl rfl rfl rfl rfl rfl rfl rfl rfl rfl rfl ?_
                      | refine AOps.buildSlice Try.hX kn rfl rfl rfl rfl rfl rfl rfl rfl rfl rfl rfl rfl ?_
                      | refine AOps.append Try.hX kn rfl rfl rfl rfl rfl rfl rfl rfl rfl rfl rfl rfl rfl rfl rfl rfl rfl rfl rfl rfl rfl ?_ ?_
                      | refine AOps.toStr Try.hX kn rfl rfl rfl rfl rfl rfl rfl rfl rfl rfl rfl (by first | exact rfl | exact byte1 _) rfl ?_
                      | refine AOps.buildArr Try.hX kn rfl rfl rfl rfl rfl rfl rfl rfl ?_
                      | refine AOps.indexArr Try.hX kn rfl rfl rfl rfl rfl rfl rfl rfl rfl rfl rfl rfl ?_
                      | refine AOps.runP1 Try.hX kn rfl rfl ?_
                      | (refine AOps.splitT rfl rfl rfl (by first | with_reducible assumption | (simp only [cond_true, cond_false, Bool.not_true, Bool.not_false, bne_self_eq_false, Int.reduceBNe, Int.reduceBEq]; with_reducible assumption)) (fun h => ?_) <;> (fail_if_success (cases h; done)) <;> rw [h])
                      | (refine AOps.splitF rfl rfl rfl (by first | with_reducible assumption | (simp only [cond_true, cond_false, Bool.not_true, Bool.not_false, bne_self_eq_false, Int.reduceBNe, Int.reduceBEq]; with_reducible assumption)) (fun h => ?_) <;> (fail_if_success (cases h; done)) <;> rw [h])
                      | (refine AOps.split rfl rfl rfl (fun h => ?_) (fun h => ?_) <;> (fail_if_success (cases h; done)) <;> rw [h])
                      | refine AOps.drawn (by kernel_rfl) ?_)
                    · have h1 := encNds_length acc
                      simp only [List.length_cons, List.length_nil]
                      omega
                    · have hap : encNds acc ++ [encNd (.mk y1 y2 y3 y4 y5)] = encNds (acc ++ [.mk y1 y2 y3 y4 y5]) := (encNds_append acc [_]).symm
                      refine AK.ren [(4, 4), (5, 5), (1000000, 1000000)] [(5000, (0, some 5000))] (env' := [(7, .c (.int .i64 (v : Nat))), (0, .ptr 1000000 0), (1, .c (.int .i64 (25 - ((g + 1 : Nat) : Int)))), (4, .ptr 4 0), (5, .ptr 5 0)])
                        (bs' := [(4, [.c (.int .i64 0), .c (.int .i64 0), .c (.int .i64 0), .c (.str []), .own .exact 5 []]), (5, [.c (.int .i64 ((2 : Nat) : Int)), .c (.int .i64 0), .c (.int .i64 ((p.toNat : Nat) : Int)), .c (.str []), .own (.tok 5000 0) 5 (encNds (acc ++ [.mk y1 y2 y3 y4 y5]))]), (1000000, [.c (.str s2), .c (.int .i64 k2), .c (.int .i64 e2)])]) (ts' := [(5000, 0)]) (us' := [4, 5, 1000000, 5000])
                        ⟨⟨_, rfl, .inl (congrArg (fun z => AV.c (.int .i64 z)) e7)⟩, ⟨_, rfl, ⟨_, rfl, rfl⟩⟩, ⟨_, rfl, .inl rfl⟩, ⟨_, rfl, ⟨_, rfl, rfl⟩⟩, ⟨_, rfl, ⟨_, rfl, rfl⟩⟩, trivial⟩ ⟨⟨_, _, rfl, rfl, ⟨_, _, rfl, .inl rfl, ⟨_, _, rfl, .inl rfl, ⟨_, _, rfl, .inl rfl, ⟨_, _, rfl, .inl rfl, ⟨_, _, rfl, rfl, rfl⟩⟩⟩⟩⟩⟩, ⟨_, _, rfl, rfl, ⟨_, _, rfl, .inl rfl, ⟨_, _, rfl, .inl rfl, ⟨_, _, rfl, .inl rfl, ⟨_, _, rfl, .inl rfl, ⟨_, _, rfl, ⟨_, rfl, .inr ⟨_, _, rfl, rfl, congrArg (AV.own (.tok 5000 1) 5) hap⟩⟩, rfl⟩⟩⟩⟩⟩⟩, ⟨_, _, rfl, rfl, ⟨_, _, rfl, .inl rfl, ⟨_, _, rfl, .inl rfl, ⟨_, _, rfl, .inl rfl, rfl⟩⟩⟩⟩, trivial⟩ rfl ?_
                      refine ih (v, acc ++ [.mk y1 y2 y3 y4 y5], s2, k2, e2) ⟨?_, by show 0 ≤ k2; omega, by show k2 ≤ 301; omega, hle.2.2, by show ((acc ++ [_]).length : Int) ≤ k2; simp only [List.length_append, List.length_cons, List.length_nil]; omega, by show v ≤ _; omega⟩ (by show v < v + 1; omega)
                      show rdRowX (rdX g) V (numRest (s)) (k + 1) 0 = _
                      rw [hinv]; simp
                · rw [rowX_err _ _ _ _ _ he, List.append_nil] at hinv
                  rw [hinv]
                  have c8 : (e' == 0) = false := by simpa using he
                  clear ih
                  rcases bool_of ((v : Int) > 0) with ⟨c7, _⟩ | ⟨c7, _⟩
                  all_goals
                    repeat' (first
                      | refine AK.runP Try.hX Try.mixed 300 rfl ?_
                      | refine AK.condTe rfl (by first | with_reducible assumption | (simp only [cond_true, cond_false, Bool.not_true, Bool.not_false, bne_self_eq_false, Int.reduceBNe, Int.reduceBEq]; with_reducible assumption)) ?_
                      | refine AK.condFe rfl (by first | with_reducible assumption | (simp only [cond_true, cond_false, Bool.not_true, Bool.not_false, bne_self_eq_false, Int.reduceBNe, Int.reduceBEq]; with_reducible assumption)) ?_
                      | (refine AK.condS rfl (fun h => ?_) (fun h => ?_) <;> first | (cases h; done) | rw [h] | skip)
                      | refine AK.retQ Try.hX hf rfl rfl ?_
                      | refine AK.retE Try.hX hf rfl rfl rfl rfl ?_ (by with_reducible rfl)
                      | refine AK.retE Try.hX hf rfl rfl rfl rfl ?_ ?_
                      | refine AK.endE Try.hX hf rfl rfl rfl rfl ?_ (by with_reducible rfl)
                      | refine AK.endE Try.hX hf rfl rfl rfl rfl ?_ ?_
                      | refine AK.region Try.mixed rfl ?_
                      | refine AOps.done ?_
                      | refine AOps.runS Try.hX kn rfl ?_
                      | refine AOps.box kn rfl rfl rfl rfl rfl rfl ?_
                      | refine AOps.alloc Try.hX kn rfl rfl rfl rfl rfl rfl rfl ?_
                      | refine AOps.store Try.hX kn rfl rfl rfl rfl rfl rfl rfl rfl rfl rfl rfl ?_
                      | refine AOps.buildSlice Try.hX kn rfl rfl rfl rfl rfl rfl rfl rfl rfl rfl rfl rfl ?_
                      | refine AOps.append Try.hX kn rfl rfl rfl rfl rfl rfl rfl rfl rfl rfl rfl rfl rfl rfl rfl rfl rfl rfl rfl rfl rfl ?_ ?_
                      | refine AOps.toStr Try.hX kn rfl rfl rfl rfl rfl rfl rfl rfl rfl rfl rfl (by first | exact rfl | exact byte1 _) rfl ?_
                      | refine AOps.buildArr Try.hX kn rfl rfl rfl rfl rfl rfl rfl rfl ?_
                      | refine AOps.indexArr Try.hX kn rfl rfl rfl rfl rfl rfl rfl rfl rfl rfl rfl rfl ?_
                      | refine AOps.runP1 Try.hX kn rfl rfl ?_
                      | (refine AOps.splitT rfl rfl rfl (by first | with_reducible assumption | (simp only [cond_true, cond_false, Bool.not_true, Bool.not_false, bne_self_eq_false, Int.reduceBNe, Int.reduceBEq]; with_reducible assumption)) (fun h => ?_) <;> (fail_if_success (cases h; done)) <;> rw [h])
                      | (refine AOps.splitF rfl rfl rfl (by first | with_reducible assumption | (simp only [cond_true, cond_false, Bool.not_true, Bool.not_false, bne_self_eq_false, Int.reduceBNe, Int.reduceBEq]; with_reducible assumption)) (fun h => ?_) <;> (fail_if_success (cases h; done)) <;> rw [h])
                      | (refine AOps.split rfl rfl rfl (fun h => ?_) (fun h => ?_) <;> (fail_if_success (cases h; done)) <;> rw [h])
                      | refine AOps.drawn (by kernel_rfl) ?_)
                    all_goals rfl
            · rw [args_no _ _ _ _ _ (.inl (by rw [hne]; omega))]
              rw [hne, hnr] at hnum
              have h4 := bad_set [] (IntKind.i64.wrap (k + 1)) 1 1 (by omega)
              rcases bool_of (numVal (s) < 0) with ⟨c5, _⟩ | ⟨c5, _⟩ <;> rcases bool_of (numVal (s) > 0) with ⟨c6, _⟩ | ⟨c6, _⟩
              all_goals
                refine ECalls.ofL Try.func108 rfl (fun args w => Try.call108 args w) (Nat.le_of_ble_eq_true rfl) [(0, .ptr 1000000 0), (1, .c (.int .i64 (25 - ((g + 1 : Nat) : Int))))] [(1000000, [.c (.str (c :: p :: s)), .c (.int .i64 k), .c (.int .i64 0)])] [] [1000000] rfl rfl fun β => ?_; have hf := Try.func108
                repeat' (first
                  | refine AK.runP Try.hX Try.mixed 300 rfl ?_
                  | refine AK.condTe rfl (by first | with_reducible assumption | (simp only [cond_true, cond_false, Bool.not_true, Bool.not_false, bne_self_eq_false, Int.reduceBNe, Int.reduceBEq]; with_reducible assumption)) ?_
                  | refine AK.condFe rfl (by first | with_reducible assumption | (simp only [cond_true, cond_false, Bool.not_true, Bool.not_false, bne_self_eq_false, Int.reduceBNe, Int.reduceBEq]; with_reducible assumption)) ?_
                  | (refine AK.condS rfl (fun h => ?_) (fun h => ?_) <;> first | (cases h; done) | rw [h] | skip)
                  | refine AK.retQ Try.hX hf rfl rfl ?_
                  | refine AK.retE Try.hX hf rfl rfl rfl rfl ?_ (by with_reducible rfl)
                  | refine AK.retE Try.hX hf rfl rfl rfl rfl ?_ ?_
                  | refine AK.endE Try.hX hf rfl rfl rfl rfl ?_ (by with_reducible rfl)
                  | refine AK.endE Try.hX hf rfl rfl rfl rfl ?_ ?_
                  | refine AK.region Try.mixed rfl ?_
                  | refine AOps.done ?_
                  | refine AOps.runS Try.hX kn rfl ?_
                  | refine AOps.calle kn rfl rfl (hbyte) rfl ⟨_, _, _, rfl, rfl, ⟨_, _, rfl, rfl, ⟨_, _, rfl, rfl, ⟨_, _, rfl, rfl, rfl⟩⟩⟩, rfl⟩ rfl rfl rfl rfl rfl rfl rfl rfl rfl rfl rfl rfl rfl rfl ?_
                  | refine AOps.calle kn rfl rfl (hpb) rfl ⟨_, _, _, rfl, rfl, ⟨_, _, rfl, rfl, ⟨_, _, rfl, rfl, ⟨_, _, rfl, rfl, rfl⟩⟩⟩, rfl⟩ rfl rfl rfl rfl rfl rfl rfl rfl rfl rfl rfl rfl rfl rfl ?_
                  | refine AOps.callq kn rfl rfl rfl rfl (hprim) ?_
                  | refine AOps.calle kn rfl rfl (hnum) rfl ⟨_, _, _, rfl, rfl, ⟨_, _, rfl, rfl, ⟨_, _, rfl, rfl, ⟨_, _, rfl, rfl, rfl⟩⟩⟩, rfl⟩ rfl rfl rfl rfl rfl rfl rfl rfl rfl rfl rfl rfl rfl rfl ?_
                  | refine AOps.calle kn rfl rfl (h4) rfl ⟨_, _, _, rfl, rfl, ⟨_, _, rfl, rfl, ⟨_, _, rfl, rfl, ⟨_, _, rfl, rfl, rfl⟩⟩⟩, ⟨_, _, rfl, rfl, rfl⟩⟩ rfl rfl rfl rfl rfl rfl rfl rfl rfl rfl rfl rfl rfl rfl ?_
                  | refine AOps.box kn rfl rfl rfl rfl rfl rfl ?_
                  | refine AOps.alloc Try.hX kn rfl rfl rfl rfl rfl rfl rfl ?_
                  | refine AOps.store Try.hX kn rfl rfl rfl rfl rfl rfl rfl rfl rfl rfl rfl ?_
                  | refine AOps.buildSlice Try.hX kn rfl rfl rfl rfl rfl rfl rfl rfl rfl rfl rfl rfl ?_
                  | refine AOps.append Try.hX kn rfl rfl rfl rfl rfl rfl rfl rfl rfl rfl rfl rfl rfl rfl rfl rfl rfl rfl rfl rfl rfl ?_ ?_
                  | refine AOps.toStr Try.hX kn rfl rfl rfl rfl rfl rfl rfl rfl rfl rfl rfl (by first | exact rfl | exact byte1 _) rfl ?_
                  | refine AOps.buildArr Try.hX kn rfl rfl rfl rfl rfl rfl rfl rfl ?_
                  | refine AOps.indexArr Try.hX kn rfl rfl rfl rfl rfl rfl rfl rfl rfl rfl rfl rfl ?_
                  | refine AOps.runP1 Try.hX kn rfl rfl ?_
                  | (refine AOps.splitT rfl rfl rfl (by first | with_reducible assumption | (simp only [cond_true, cond_false, Bool.not_true, Bool.not_false, bne_self_eq_false, Int.reduceBNe, Int.reduceBEq]; with_reducible assumption)) (fun h => ?_) <;> (fail_if_success (cases h; done)) <;> rw [h])
                  | (refine AOps.splitF rfl rfl rfl (by first | with_reducible assumption | (simp only [cond_true, cond_false, Bool.not_true, Bool.not_false, bne_self_eq_false, Int.reduceBNe, Int.reduceBEq]; with_reducible assumption)) (fun h => ?_) <;> (fail_if_success (cases h; done)) <;> rw [h])
                  | (refine AOps.split rfl rfl rfl (fun h => ?_) (fun h => ?_) <;> (fail_if_success (cases h; done)) <;> rw [h])
                  | refine AOps.drawn (by kernel_rfl) ?_)
                refine AK.loopE (α := Unit) (fun _ => True) (fun _ => 0)
                  (fun _ => [(7, .c (.int .i64 (numVal (s)))), (0, .ptr 1000000 0), (1, .c (.int .i64 (25 - ((g + 1 : Nat) : Int)))), (4, .ptr 4 0), (5, .ptr 5 0)])
                  (fun _ => [(4, [.c (.int .i64 0), .c (.int .i64 0), .c (.int .i64 0), .c (.str []), .own .exact 5 []]), (5, [.c (.int .i64 ((2 : Nat) : Int)), .c (.int .i64 0), .c (.int .i64 ((p.toNat : Nat) : Int)), .c (.str []), .own .exact 5 []]), (1000000, [.c (.str []), .c (.int .i64 (IntKind.i64.wrap (k + 1))), .c (.int .i64 1)])]) (fun _ => []) [4, 5, 1000000] ()
                  trivial ⟨.inl rfl, .inl rfl, .inl rfl, .inl rfl, .inl rfl, trivial⟩ ⟨rfl, rfl, rfl, trivial⟩ trivial rfl rfl rfl ?_
                rintro _ _ ih
                clear ih
                repeat' (first
                  | refine AK.runP Try.hX Try.mixed 300 rfl ?_
                  | refine AK.condTe rfl (by first | with_reducible assumption | (simp only [cond_true, cond_false, Bool.not_true, Bool.not_false, bne_self_eq_false, Int.reduceBNe, Int.reduceBEq]; with_reducible assumption)) ?_
                  | refine AK.condFe rfl (by first | with_reducible assumption | (simp only [cond_true, cond_false, Bool.not_true, Bool.not_false, bne_self_eq_false, Int.reduceBNe, Int.reduceBEq]; with_reducible assumption)) ?_
                  | (refine AK.condS rfl (fun h => ?_) (fun h => ?_) <;> first | (cases h; done) | rw [h] | skip)
                  | refine AK.retQ Try.hX hf rfl rfl ?_
                  | refine AK.retE Try.hX hf rfl rfl rfl rfl ?_ (by with_reducible rfl)
                  | refine AK.retE Try.hX hf rfl rfl rfl rfl ?_ ?_
                  | refine AK.endE Try.hX hf rfl rfl rfl rfl ?_ (by with_reducible rfl)
                  | refine AK.endE Try.hX hf rfl rfl rfl rfl ?_ ?_
                  | refine AK.region Try.mixed rfl ?_
                  | refine AOps.done ?_
                  | refine AOps.runS Try.hX kn rfl ?_
                  | refine AOps.box kn rfl rfl rfl rfl rfl rfl ?_
                  | refine AOps.alloc Try.hX kn rfl rfl rfl rfl rfl rfl rfl ?_
                  | refine AOps.store Try.hX kn rfl rfl rfl rfl rfl rfl rfl rfl rfl rfl rfl ?_
                  | refine AOps.buildSlice Try.hX kn rfl rfl rfl rfl rfl rfl rfl rfl rfl rfl rfl rfl ?_
                  | refine AOps.append Try.hX kn rfl rfl rfl rfl rfl rfl rfl rfl rfl rfl rfl rfl rfl rfl rfl rfl rfl rfl rfl rfl rfl ?_ ?_
                  | refine AOps.toStr Try.hX kn rfl rfl rfl rfl rfl rfl rfl rfl rfl rfl rfl (by first | exact rfl | exact byte1 _) rfl ?_
                  | refine AOps.buildArr Try.hX kn rfl rfl rfl rfl rfl rfl rfl rfl ?_
                  | refine AOps.indexArr Try.hX kn rfl rfl rfl rfl rfl rfl rfl rfl rfl rfl rfl rfl ?_
                  | refine AOps.runP1 Try.hX kn rfl rfl ?_
                  | (refine AOps.splitT rfl rfl rfl (by first | with_reducible assumption | (simp only [cond_true, cond_false, Bool.not_true, Bool.not_false, bne_self_eq_false, Int.reduceBNe, Int.reduceBEq]; with_reducible assumption)) (fun h => ?_) <;> (fail_if_success (cases h; done)) <;> rw [h])
                  | (refine AOps.splitF rfl rfl rfl (by first | with_reducible assumption | (simp only [cond_true, cond_false, Bool.not_true, Bool.not_false, bne_self_eq_false, Int.reduceBNe, Int.reduceBEq]; with_reducible assumption)) (fun h => ?_) <;> (fail_if_success (cases h; done)) <;> rw [h])
                  | (refine AOps.split rfl rfl rfl (fun h => ?_) (fun h => ?_) <;> (fail_if_success (cases h; done)) <;> rw [h])
                  | refine AOps.drawn (by kernel_rfl) ?_)
                all_goals first | rfl | (rw [e1])
      by_cases q3 : q = 3
      · subst q3
        rw [body3]
        -- the arguments of a node
        have hnum := number_calls (s) (IntKind.i64.wrap (k + 1))
        rcases numErr_cases (s) with hne | ⟨hne, hnr⟩
        · have hvb := numVal_bound hne
          unfold maxI at hvb
          rw [hne] at hnum
          by_cases hv0 : numVal (s) < 0
          · rw [args_no _ _ _ _ _ (.inr hv0)]
            have c5 : decide (numVal (s) < 0) = true := decide_eq_true hv0
            have c6 : decide (numVal (s) > 0) = false := decide_eq_false (by omega)
            have h4 := bad_zero (numRest (s)) (IntKind.i64.wrap (k + 1)) 1
            refine ECalls.ofL Try.func108 rfl (fun args w => Try.call108 args w) (Nat.le_of_ble_eq_true rfl) [(0, .ptr 1000000 0), (1, .c (.int .i64 (25 - ((g + 1 : Nat) : Int))))] [(1000000, [.c (.str (c :: s)), .c (.int .i64 k), .c (.int .i64 0)])] [] [1000000] rfl rfl fun β => ?_; have hf := Try.func108
            repeat' (first
              | refine AK.runP Try.hX Try.mixed 300 rfl ?_
              | refine AK.condTe rfl (by first | with_reducible assumption | (simp only [cond_true, cond_false, Bool.not_true, Bool.not_false, bne_self_eq_false, Int.reduceBNe, Int.reduceBEq]; with_reducible assumption)) ?_
              | refine AK.condFe rfl (by first | with_reducible assumption | (simp only [cond_true, cond_false, Bool.not_true, Bool.not_false, bne_self_eq_false, Int.reduceBNe, Int.reduceBEq]; with_reducible assumption)) ?_
              | (refine AK.condS rfl (fun h => ?_) (fun h => ?_) <;> first | (cases h; done) | rw [h] | skip)
              | refine AK.retQ Try.hX hf rfl rfl ?_
              | refine AK.retE Try.hX hf rfl rfl rfl rfl ?_ (by with_reducible rfl)
              | refine AK.retE Try.hX hf rfl rfl rfl rfl ?_ ?_
              | refine AK.endE Try.hX hf rfl rfl rfl rfl ?_ (by with_reducible rfl)
              | refine AK.endE Try.hX hf rfl rfl rfl rfl ?_ ?_
              | refine AK.region Try.mixed rfl ?_
              | refine AOps.done ?_
              | refine AOps.runS Try.hX kn rfl ?_
              | refine AOps.calle kn rfl rfl (hbyte) rfl ⟨_, _, _, rfl, rfl, ⟨_, _, rfl, rfl, ⟨_, _, rfl, rfl, ⟨_, _, rfl, rfl, rfl⟩⟩⟩, rfl⟩ rfl rfl rfl rfl rfl rfl rfl rfl rfl rfl rfl rfl rfl rfl ?_
              | refine AOps.calle kn rfl rfl (hnum) rfl ⟨_, _, _, rfl, rfl, ⟨_, _, rfl, rfl, ⟨_, _, rfl, rfl, ⟨_, _, rfl, rfl, rfl⟩⟩⟩, rfl⟩ rfl rfl rfl rfl rfl rfl rfl rfl rfl rfl rfl rfl rfl rfl ?_
              | refine AOps.calle kn rfl rfl (h4) rfl ⟨_, _, _, rfl, rfl, ⟨_, _, rfl, rfl, ⟨_, _, rfl, rfl, ⟨_, _, rfl, rfl, rfl⟩⟩⟩, ⟨_, _, rfl, rfl, rfl⟩⟩ rfl rfl rfl rfl rfl rfl rfl rfl rfl rfl rfl rfl rfl rfl ?_
              | refine AOps.box kn rfl rfl rfl rfl rfl rfl ?_
              | refine AOps.alloc Try.hX kn rfl rfl rfl rfl rfl rfl rfl ?_
              | refine AOps.store Try.hX kn rfl rfl rfl rfl rfl rfl rfl rfl rfl rfl rfl ?_
              | refine AOps.buildSlice Try.hX kn rfl rfl rfl rfl rfl rfl rfl rfl rfl rfl rfl rfl ?_
              | refine AOps.append Try.hX kn rfl rfl rfl rfl rfl rfl rfl rfl rfl rfl rfl rfl rfl rfl rfl rfl rfl rfl rfl rfl rfl ?_ ?_
              | refine AOps.toStr Try.hX kn rfl rfl rfl rfl rfl rfl rfl rfl rfl rfl rfl (by first | exact rfl | exact byte1 _) rfl ?_
              | refine AOps.buildArr Try.hX kn rfl rfl rfl rfl rfl rfl rfl rfl ?_
              | refine AOps.indexArr Try.hX kn rfl rfl rfl rfl rfl rfl rfl rfl rfl rfl rfl rfl ?_
              | refine AOps.runP1 Try.hX kn rfl rfl ?_
              | (refine AOps.splitT rfl rfl rfl (by first | with_reducible assumption | (simp only [cond_true, cond_false, Bool.not_true, Bool.not_false, bne_self_eq_false, Int.reduceBNe, Int.reduceBEq]; with_reducible assumption)) (fun h => ?_) <;> (fail_if_success (cases h; done)) <;> rw [h])
              | (refine AOps.splitF rfl rfl rfl (by first | with_reducible assumption | (simp only [cond_true, cond_false, Bool.not_true, Bool.not_false, bne_self_eq_false, Int.reduceBNe, Int.reduceBEq]; with_reducible assumption)) (fun h => ?_) <;> (fail_if_success (cases h; done)) <;> rw [h])
              | (refine AOps.split rfl rfl rfl (fun h => ?_) (fun h => ?_) <;> (fail_if_success (cases h; done)) <;> rw [h])
              | refine AOps.drawn (by kernel_rfl) ?_)
            refine AK.loopE (α := Unit) (fun _ => True) (fun _ => 0)
              (fun _ => [(7, .c (.int .i64 (numVal (s)))), (0, .ptr 1000000 0), (1, .c (.int .i64 (25 - ((g + 1 : Nat) : Int)))), (4, .ptr 4 0), (5, .ptr 5 0)])
              (fun _ => [(4, [.c (.int .i64 0), .c (.int .i64 0), .c (.int .i64 0), .c (.str []), .own .exact 5 []]), (5, [.c (.int .i64 ((3 : Nat) : Int)), .c (.int .i64 0), .c (.int .i64 0), .c (.str []), .own .exact 5 []]), (1000000, [.c (.str []), .c (.int .i64 (IntKind.i64.wrap (k + 1))), .c (.int .i64 1)])]) (fun _ => []) [4, 5, 1000000] ()
              trivial ⟨.inl rfl, .inl rfl, .inl rfl, .inl rfl, .inl rfl, trivial⟩ ⟨rfl, rfl, rfl, trivial⟩ trivial rfl rfl rfl ?_
            rintro _ _ ih
            clear ih
            repeat' (first
              | refine AK.runP Try.hX Try.mixed 300 rfl ?_
              | refine AK.condTe rfl (by first | with_reducible assumption | (simp only [cond_true, cond_false, Bool.not_true, Bool.not_false, bne_self_eq_false, Int.reduceBNe, Int.reduceBEq]; with_reducible assumption)) ?_
              | refine AK.condFe rfl (by first | with_reducible assumption | (simp only [cond_true, cond_false, Bool.not_true, Bool.not_false, bne_self_eq_false, Int.reduceBNe, Int.reduceBEq]; with_reducible assumption)) ?_
              | (refine AK.condS rfl (fun h => ?_) (fun h => ?_) <;> first | (cases h; done) | rw [h] | skip)
              | refine AK.retQ Try.hX hf rfl rfl ?_
              | refine AK.retE Try.hX hf rfl rfl rfl rfl ?_ (by with_reducible rfl)
              | refine AK.retE Try.hX hf rfl rfl rfl rfl ?_ ?_
              | refine AK.endE Try.hX hf rfl rfl rfl rfl ?_ (by with_reducible rfl)
              | refine AK.endE Try.hX hf rfl rfl rfl rfl ?_ ?_
              | refine AK.region Try.mixed rfl ?_
              | refine AOps.done ?_
              | refine AOps.runS Try.hX kn rfl ?_
              | refine AOps.box kn rfl rfl rfl rfl rfl rfl ?_
              | refine AOps.alloc Try.hX kn rfl rfl rfl rfl rfl rfl rfl ?_
              | refine AOps.store Try.hX kn rfl rfl rfl rfl rfl rfl rfl rfl rfl rfl rfl ?_
              | refine AOps.buildSlice Try.hX kn rfl rfl rfl rfl rfl rfl rfl rfl rfl rfl rfl rfl ?_
              | refine AOps.append Try.hX kn rfl rfl rfl rfl rfl rfl rfl rfl rfl rfl rfl rfl rfl rfl rfl rfl rfl rfl rfl rfl rfl ?_ ?_
              | refine AOps.toStr Try.hX kn rfl rfl rfl rfl rfl rfl rfl rfl rfl rfl rfl (by first | exact rfl | exact byte1 _) rfl ?_
              | refine AOps.buildArr Try.hX kn rfl rfl rfl rfl rfl rfl rfl rfl ?_
              | refine AOps.indexArr Try.hX kn rfl rfl rfl rfl rfl rfl rfl rfl rfl rfl rfl rfl ?_
              | refine AOps.runP1 Try.hX kn rfl rfl ?_
              | (refine AOps.splitT rfl rfl rfl (by first | with_reducible assumption | (simp only [cond_true, cond_false, Bool.not_true, Bool.not_false, bne_self_eq_false, Int.reduceBNe, Int.reduceBEq]; with_reducible assumption)) (fun h => ?_) <;> (fail_if_success (cases h; done)) <;> rw [h])
              | (refine AOps.splitF rfl rfl rfl (by first | with_reducible assumption | (simp only [cond_true, cond_false, Bool.not_true, Bool.not_false, bne_self_eq_false, Int.reduceBNe, Int.reduceBEq]; with_reducible assumption)) (fun h => ?_) <;> (fail_if_success (cases h; done)) <;> rw [h])
              | (refine AOps.split rfl rfl rfl (fun h => ?_) (fun h => ?_) <;> (fail_if_success (cases h; done)) <;> rw [h])
              | refine AOps.drawn (by kernel_rfl) ?_)
            all_goals first | rfl | (rw [e1])
          · rw [args_go _ _ _ _ _ (by rw [hne]; simp; omega)]
            have c5 : decide (numVal (s) < 0) = false := decide_eq_false hv0
            obtain ⟨V, hv⟩ : ∃ v : Nat, numVal (s) = v := ⟨(numVal (s)).toNat, by omega⟩
            rw [hv] at hnum c5
            have hvt : (numVal (s)).toNat = V := by omega
            rw [hvt]
            refine ECalls.ofL Try.func108 rfl (fun args w => Try.call108 args w) (Nat.le_of_ble_eq_true rfl) [(0, .ptr 1000000 0), (1, .c (.int .i64 (25 - ((g + 1 : Nat) : Int))))] [(1000000, [.c (.str (c :: s)), .c (.int .i64 k), .c (.int .i64 0)])] [] [1000000] rfl rfl fun β => ?_; have hf := Try.func108
            repeat' (first
              | refine AK.runP Try.hX Try.mixed 300 rfl ?_
              | refine AK.condTe rfl (by first | with_reducible assumption | (simp only [cond_true, cond_false, Bool.not_true, Bool.not_false, bne_self_eq_false, Int.reduceBNe, Int.reduceBEq]; with_reducible assumption)) ?_
              | refine AK.condFe rfl (by first | with_reducible assumption | (simp only [cond_true, cond_false, Bool.not_true, Bool.not_false, bne_self_eq_false, Int.reduceBNe, Int.reduceBEq]; with_reducible assumption)) ?_
              | (refine AK.condS rfl (fun h => ?_) (fun h => ?_) <;> first | (cases h; done) | rw [h] | skip)
              | refine AK.retQ Try.hX hf rfl rfl ?_
              | refine AK.retE Try.hX hf rfl rfl rfl rfl ?_ (by with_reducible rfl)
              | refine AK.retE Try.hX hf rfl rfl rfl rfl ?_ ?_
              | refine AK.endE Try.hX hf rfl rfl rfl rfl ?_ (by with_reducible rfl)
              | refine AK.endE Try.hX hf rfl rfl rfl rfl ?_ ?_
              | refine AK.region Try.mixed rfl ?_
              | refine AOps.done ?_
              | refine AOps.runS Try.hX kn rfl ?_
              | refine AOps.calle kn rfl rfl (hbyte) rfl ⟨_, _, _, rfl, rfl, ⟨_, _, rfl, rfl, ⟨_, _, rfl, rfl, ⟨_, _, rfl, rfl, rfl⟩⟩⟩, rfl⟩ rfl rfl rfl rfl rfl rfl rfl rfl rfl rfl rfl rfl rfl rfl ?_
              | refine AOps.calle kn rfl rfl (hnum) rfl ⟨_, _, _, rfl, rfl, ⟨_, _, rfl, rfl, ⟨_, _, rfl, rfl, ⟨_, _, rfl, rfl, rfl⟩⟩⟩, rfl⟩ rfl rfl rfl rfl rfl rfl rfl rfl rfl rfl rfl rfl rfl rfl ?_
              | refine AOps.box kn rfl rfl rfl rfl rfl rfl ?_
              | refine AOps.alloc Try.hX kn rfl rfl rfl rfl rfl rfl rfl ?_
              | refine AOps.store Try.hX kn rfl rfl rfl rfl rfl rfl rfl rfl rfl rfl rfl ?_
              | refine AOps.buildSlice Try.hX kn rfl rfl rfl rfl rfl rfl rfl rfl rfl rfl rfl rfl ?_
              | refine AOps.append Try.hX kn rfl rfl rfl rfl rfl rfl rfl rfl rfl rfl rfl rfl rfl rfl rfl rfl rfl rfl rfl rfl rfl ?_ ?_
              | refine AOps.toStr Try.hX kn rfl rfl rfl rfl rfl rfl rfl rfl rfl rfl rfl (by first | exact rfl | exact byte1 _) rfl ?_
              | refine AOps.buildArr Try.hX kn rfl rfl rfl rfl rfl rfl rfl rfl ?_
              | refine AOps.indexArr Try.hX kn rfl rfl rfl rfl rfl rfl rfl rfl rfl rfl rfl rfl ?_
              | refine AOps.runP1 Try.hX kn rfl rfl ?_
              | (refine AOps.splitT rfl rfl rfl (by first | with_reducible assumption | (simp only [cond_true, cond_false, Bool.not_true, Bool.not_false, bne_self_eq_false, Int.reduceBNe, Int.reduceBEq]; with_reducible assumption)) (fun h => ?_) <;> (fail_if_success (cases h; done)) <;> rw [h])
              | (refine AOps.splitF rfl rfl rfl (by first | with_reducible assumption | (simp only [cond_true, cond_false, Bool.not_true, Bool.not_false, bne_self_eq_false, Int.reduceBNe, Int.reduceBEq]; with_reducible assumption)) (fun h => ?_) <;> (fail_if_success (cases h; done)) <;> rw [h])
              | (refine AOps.split rfl rfl rfl (fun h => ?_) (fun h => ?_) <;> (fail_if_success (cases h; done)) <;> rw [h])
              | refine AOps.drawn (by kernel_rfl) ?_)
            refine AK.ren [(4, 4), (5, 5), (1000000, 1000000)] [(5000, (0, none))] (env' := [(7, .c (.int .i64 (V : Nat))), (0, .ptr 1000000 0), (1, .c (.int .i64 (25 - ((g + 1 : Nat) : Int)))), (4, .ptr 4 0), (5, .ptr 5 0)])
              (bs' := [(4, [.c (.int .i64 0), .c (.int .i64 0), .c (.int .i64 0), .c (.str []), .own .exact 5 []]), (5, [.c (.int .i64 ((3 : Nat) : Int)), .c (.int .i64 0), .c (.int .i64 0), .c (.str []), .own (.tok 5000 0) 5 []]), (1000000, [.c (.str (numRest (s))), .c (.int .i64 (k + 1)), .c (.int .i64 0)])]) (ts' := [(5000, 0)]) (us' := [4, 5, 1000000, 5000])
              ⟨⟨_, rfl, .inl rfl⟩, ⟨_, rfl, ⟨_, rfl, rfl⟩⟩, ⟨_, rfl, .inl rfl⟩, ⟨_, rfl, ⟨_, rfl, rfl⟩⟩, ⟨_, rfl, ⟨_, rfl, rfl⟩⟩, trivial⟩ ⟨⟨_, _, rfl, rfl, ⟨_, _, rfl, .inl rfl, ⟨_, _, rfl, .inl rfl, ⟨_, _, rfl, .inl rfl, ⟨_, _, rfl, .inl rfl, ⟨_, _, rfl, rfl, rfl⟩⟩⟩⟩⟩⟩, ⟨_, _, rfl, rfl, ⟨_, _, rfl, .inl rfl, ⟨_, _, rfl, .inl rfl, ⟨_, _, rfl, .inl rfl, ⟨_, _, rfl, .inl rfl, ⟨_, _, rfl, ⟨_, rfl, .inl ⟨rfl, _, rfl, .inr rfl⟩⟩, rfl⟩⟩⟩⟩⟩⟩, ⟨_, _, rfl, rfl, ⟨_, _, rfl, .inl rfl, ⟨_, _, rfl, .inl (congrArg (fun z => AV.c (.int .i64 z)) e1), ⟨_, _, rfl, .inl rfl, rfl⟩⟩⟩⟩, trivial⟩ rfl ?_
            refine AK.loopE (α := Nat × List Nd × List UInt8 × Int × Int) (fun z => rdRowX (rdX g) V (numRest (s)) (k + 1) 0 = (z.2.1 ++ (rdRowX (rdX g) z.1 z.2.2.1 z.2.2.2.1 z.2.2.2.2).1, (rdRowX (rdX g) z.1 z.2.2.1 z.2.2.2.1 z.2.2.2.2).2) ∧ 0 ≤ z.2.2.2.1 ∧ z.2.2.2.1 ≤ 301 ∧ (z.2.2.2.2 = 0 → z.2.2.2.1 ≤ 300) ∧ (z.2.1.length : Int) ≤ z.2.2.2.1 ∧ z.1 ≤ 1152921504606846976) (fun z => z.1)
              (fun z => [(7, .c (.int .i64 (z.1 : Nat))), (0, .ptr 1000000 0), (1, .c (.int .i64 (25 - ((g + 1 : Nat) : Int)))), (4, .ptr 4 0), (5, .ptr 5 0)])
              (fun z => [(4, [.c (.int .i64 0), .c (.int .i64 0), .c (.int .i64 0), .c (.str []), .own .exact 5 []]), (5, [.c (.int .i64 ((3 : Nat) : Int)), .c (.int .i64 0), .c (.int .i64 0), .c (.str []), .own (.tok 5000 0) 5 (encNds z.2.1)]), (1000000, [.c (.str z.2.2.1), .c (.int .i64 z.2.2.2.1), .c (.int .i64 z.2.2.2.2)])]) (fun _ => [(5000, 0)]) [4, 5, 1000000, 5000] (V, [], numRest (s), k + 1, 0)
              ⟨by simp, by show 0 ≤ k + 1; omega, by show k + 1 ≤ 301; omega, fun _ => by show k + 1 ≤ 300; omega, by show (0 : Int) ≤ k + 1; omega, by show V ≤ _; omega⟩ ⟨.inl rfl, .inl rfl, .inl rfl, .inl rfl, .inl rfl, trivial⟩ ⟨rfl, rfl, rfl, trivial⟩ ⟨rfl, trivial⟩ rfl rfl rfl ?_
            rintro ⟨v, acc, s', k', e'⟩ ⟨hinv, hk0', hk', hke, hal, hvb'⟩ ih
            simp only at hinv hk0' hk' hke hal hvb'
            by_cases he : e' = 0
            · subst he
              have hk3 := hke rfl
              cases v with
              | zero =>
                rw [rowX_zero, List.append_nil] at hinv
                rw [hinv]
                clear ih
                repeat' (first
                  | refine AK.runP Try.hX Try.mixed 300 rfl ?_
                  | refine AK.condTe rfl (by first | with_reducible assumption | (simp only [cond_true, cond_false, Bool.not_true, Bool.not_false, bne_self_eq_false, Int.reduceBNe, Int.reduceBEq]; with_reducible assumption)) ?_
                  | refine AK.condFe rfl (by first | with_reducible assumption | (simp only [cond_true, cond_false, Bool.not_true, Bool.not_false, bne_self_eq_false, Int.reduceBNe, Int.reduceBEq]; with_reducible assumption)) ?_
                  | (refine AK.condS rfl (fun h => ?_) (fun h => ?_) <;> first | (cases h; done) | rw [h] | skip)
                  | refine AK.retQ Try.hX hf rfl rfl ?_
                  | refine AK.retE Try.hX hf rfl rfl rfl rfl ?_ (by with_reducible rfl)
                  | refine AK.retE Try.hX hf rfl rfl rfl rfl ?_ ?_
                  | refine AK.endE Try.hX hf rfl rfl rfl rfl ?_ (by with_reducible rfl)
                  | refine AK.endE Try.hX hf rfl rfl rfl rfl ?_ ?_
                  | refine AK.region Try.mixed rfl ?_
                  | refine AOps.done ?_
                  | refine AOps.runS Try.hX kn rfl ?_
                  | refine AOps.box kn rfl rfl rfl rfl rfl rfl ?_
                  | refine AOps.alloc Try.hX kn rfl rfl rfl rfl rfl rfl rfl ?_
                  | refine AOps.store Try.hX kn rfl rfl rfl rfl rfl rfl rfl rfl rfl rfl rfl ?_
                  | refine AOps.buildSlice Try.hX kn rfl rfl rfl rfl rfl rfl rfl rfl rfl rfl rfl rfl ?_
                  | refine AOps.append Try.hX kn rfl rfl rfl rfl rfl rfl rfl rfl rfl rfl rfl rfl rfl rfl rfl rfl rfl rfl rfl rfl rfl ?_ ?_
                  | refine AOps.toStr Try.hX kn rfl rfl rfl rfl rfl rfl rfl rfl rfl rfl rfl (by first | exact rfl | exact byte1 _) rfl ?_
                  | refine AOps.buildArr Try.hX kn rfl rfl rfl rfl rfl rfl rfl rfl ?_
                  | refine AOps.indexArr Try.hX kn rfl rfl rfl rfl rfl rfl rfl rfl rfl rfl rfl rfl ?_
                  | refine AOps.runP1 Try.hX kn rfl rfl ?_
                  | (refine AOps.splitT rfl rfl rfl (by first | with_reducible assumption | (simp only [cond_true, cond_false, Bool.not_true, Bool.not_false, bne_self_eq_false, Int.reduceBNe, Int.reduceBEq]; with_reducible assumption)) (fun h => ?_) <;> (fail_if_success (cases h; done)) <;> rw [h])
                  | (refine AOps.splitF rfl rfl rfl (by first | with_reducible assumption | (simp only [cond_true, cond_false, Bool.not_true, Bool.not_false, bne_self_eq_false, Int.reduceBNe, Int.reduceBEq]; with_reducible assumption)) (fun h => ?_) <;> (fail_if_success (cases h; done)) <;> rw [h])
                  | (refine AOps.split rfl rfl rfl (fun h => ?_) (fun h => ?_) <;> (fail_if_success (cases h; done)) <;> rw [h])
                  | refine AOps.drawn (by kernel_rfl) ?_)
                all_goals rfl
              | succ v =>
                have c7 : decide (((v + 1 : Nat) : Int) > 0) = true := decide_eq_true (by omega)
                have hq := hin s' k' hk0' hk3
                have hle := rdX_le g s' k' hk0' hk3
                rw [rowX_more] at hinv
                rcases hx : rdX g s' k' with ⟨⟨y1, y2, y3, y4, y5⟩, s2, k2, e2⟩
                rw [hx] at hq hle hinv
                simp only at hq hle hinv
                have e7 : IntKind.i64.wrap (((v + 1 : Nat) : Int) - 1) = (v : Int) := by rw [w64 (by omega) (by omega)]; omega
                repeat' (first
                  | refine AK.runP Try.hX Try.mixed 300 rfl ?_
                  | refine AK.condTe rfl (by first | with_reducible assumption | (simp only [cond_true, cond_false, Bool.not_true, Bool.not_false, bne_self_eq_false, Int.reduceBNe, Int.reduceBEq]; with_reducible assumption)) ?_
                  | refine AK.condFe rfl (by first | with_reducible assumption | (simp only [cond_true, cond_false, Bool.not_true, Bool.not_false, bne_self_eq_false, Int.reduceBNe, Int.reduceBEq]; with_reducible assumption)) ?_
                  | (refine AK.condS rfl (fun h => ?_) (fun h => ?_) <;> first | (cases h; done) | rw [h] | skip)
                  | refine AK.retQ Try.hX hf rfl rfl ?_
                  | refine AK.retE Try.hX hf rfl rfl rfl rfl ?_ (by with_reducible rfl)
                  | refine AK.retE Try.hX hf rfl rfl rfl rfl ?_ ?_
                  | refine AK.endE Try.hX hf rfl rfl rfl rfl ?_ (by with_reducible rfl)
                  | refine AK.endE Try.hX hf rfl rfl rfl rfl ?_ ?_
                  | refine AK.region Try.mixed rfl ?_
                  | refine AOps.done ?_
                  | refine AOps.runS Try.hX kn rfl ?_
                  | refine AOps.calle kn rfl rfl (hq) rfl ⟨_, _, _, rfl, rfl, ⟨_, _, rfl, rfl, ⟨_, _, rfl, rfl, ⟨_, _, rfl, rfl, rfl⟩⟩⟩, ⟨_, _, rfl, rfl, rfl⟩⟩ rfl rfl rfl rfl rfl rfl rfl rfl rfl rfl rfl rfl rfl rfl ?_
                  | refine AOps.box kn rfl rfl rfl rfl rfl rfl ?_
                  | refine AOps.alloc Try.hX kn rfl rfl rfl rfl rfl rfl rfl ?_
                  | refine AOps.store Try.hX kn rfl rfl rfl rfl rfl rfl rfl rfl rfl rfl rfl ?_
                  | refine AOps.buildSlice Try.hX kn rfl rfl rfl rfl rfl rfl rfl rfl rfl rfl rfl rfl ?_
                  | refine AOps.append Try.hX kn rfl rfl rfl rfl rfl rfl rfl rfl rfl rfl rfl rfl rfl rfl rfl rfl rfl rfl rfl rfl rfl ?_ ?_
                  | refine AOps.toStr Try.hX kn rfl rfl rfl rfl rfl rfl rfl rfl rfl rfl rfl (by first | exact rfl | exact byte1 _) rfl ?_
                  | refine AOps.buildArr Try.hX kn rfl rfl rfl rfl rfl rfl rfl rfl ?_
                  | refine AOps.indexArr Try.hX kn rfl rfl rfl rfl rfl rfl rfl rfl rfl rfl rfl rfl ?_
                  | refine AOps.runP1 Try.hX kn rfl rfl ?_
                  | (refine AOps.splitT rfl rfl rfl (by first | with_reducible assumption | (simp only [cond_true, cond_false, Bool.not_true, Bool.not_false, bne_self_eq_false, Int.reduceBNe, Int.reduceBEq]; with_reducible assumption)) (fun h => ?_) <;> (fail_if_success (cases h; done)) <;> rw [h])
                  | (refine AOps.splitF rfl rfl rfl (by first | with_reducible assumption | (simp only [cond_true, cond_false, Bool.not_true, Bool.not_false, bne_self_eq_false, Int.reduceBNe, Int.reduceBEq]; with_reducible assumption)) (fun h => ?_) <;> (fail_if_success (cases h; done)) <;> rw [h])
                  | (refine AOps.split rfl rfl rfl (fun h => ?_) (fun h => ?_) <;> (fail_if_success (cases h; done)) <;> rw [h])
                  | refine AOps.drawn (by kernel_rfl) ?_)
                · have h1 := encNds_length acc
                  simp only [List.length_cons, List.length_nil]
                  omega
                · have hap : encNds acc ++ [encNd (.mk y1 y2 y3 y4 y5)] = encNds (acc ++ [.mk y1 y2 y3 y4 y5]) := (encNds_append acc [_]).symm
                  refine AK.ren [(4, 4), (5, 5), (1000000, 1000000)] [(5000, (0, some 5000))] (env' := [(7, .c (.int .i64 (v : Nat))), (0, .ptr 1000000 0), (1, .c (.int .i64 (25 - ((g + 1 : Nat) : Int)))), (4, .ptr 4 0), (5, .ptr 5 0)])
                    (bs' := [(4, [.c (.int .i64 0), .c (.int .i64 0), .c (.int .i64 0), .c (.str []), .own .exact 5 []]), (5, [.c (.int .i64 ((3 : Nat) : Int)), .c (.int .i64 0), .c (.int .i64 0), .c (.str []), .own (.tok 5000 0) 5 (encNds (acc ++ [.mk y1 y2 y3 y4 y5]))]), (1000000, [.c (.str s2), .c (.int .i64 k2), .c (.int .i64 e2)])]) (ts' := [(5000, 0)]) (us' := [4, 5, 1000000, 5000])
                    ⟨⟨_, rfl, .inl (congrArg (fun z => AV.c (.int .i64 z)) e7)⟩, ⟨_, rfl, ⟨_, rfl, rfl⟩⟩, ⟨_, rfl, .inl rfl⟩, ⟨_, rfl, ⟨_, rfl, rfl⟩⟩, ⟨_, rfl, ⟨_, rfl, rfl⟩⟩, trivial⟩ ⟨⟨_, _, rfl, rfl, ⟨_, _, rfl, .inl rfl, ⟨_, _, rfl, .inl rfl, ⟨_, _, rfl, .inl rfl, ⟨_, _, rfl, .inl rfl, ⟨_, _, rfl, rfl, rfl⟩⟩⟩⟩⟩⟩, ⟨_, _, rfl, rfl, ⟨_, _, rfl, .inl rfl, ⟨_, _, rfl, .inl rfl, ⟨_, _, rfl, .inl rfl, ⟨_, _, rfl, .inl rfl, ⟨_, _, rfl, ⟨_, rfl, .inr ⟨_, _, rfl, rfl, congrArg (AV.own (.tok 5000 1) 5) hap⟩⟩, rfl⟩⟩⟩⟩⟩⟩, ⟨_, _, rfl, rfl, ⟨_, _, rfl, .inl rfl, ⟨_, _, rfl, .inl rfl, ⟨_, _, rfl, .inl rfl, rfl⟩⟩⟩⟩, trivial⟩ rfl ?_
                  refine ih (v, acc ++ [.mk y1 y2 y3 y4 y5], s2, k2, e2) ⟨?_, by show 0 ≤ k2; omega, by show k2 ≤ 301; omega, hle.2.2, by show ((acc ++ [_]).length : Int) ≤ k2; simp only [List.length_append, List.length_cons, List.length_nil]; omega, by show v ≤ _; omega⟩ (by show v < v + 1; omega)
                  show rdRowX (rdX g) V (numRest (s)) (k + 1) 0 = _
                  rw [hinv]; simp
            · rw [rowX_err _ _ _ _ _ he, List.append_nil] at hinv
              rw [hinv]
              have c8 : (e' == 0) = false := by simpa using he
              clear ih
              rcases bool_of ((v : Int) > 0) with ⟨c7, _⟩ | ⟨c7, _⟩
              all_goals
                repeat' (first
                  | refine AK.runP Try.hX Try.mixed 300 rfl ?_
                  | refine AK.condTe rfl (by first | with_reducible assumption | (simp only [cond_true, cond_false, Bool.not_true, Bool.not_false, bne_self_eq_false, Int.reduceBNe, Int.reduceBEq]; with_reducible assumption)) ?_
                  | refine AK.condFe rfl (by first | with_reducible assumption | (simp only [cond_true, cond_false, Bool.not_true, Bool.not_false, bne_self_eq_false, Int.reduceBNe, Int.reduceBEq]; with_reducible assumption)) ?_
                  | (refine AK.condS rfl (fun h => ?_) (fun h => ?_) <;> first | (cases h; done) | rw [h] | skip)
                  | refine AK.retQ Try.hX hf rfl rfl ?_
                  | refine AK.retE Try.hX hf rfl rfl rfl rfl ?_ (by with_reducible rfl)
                  | refine AK.retE Try.hX hf rfl rfl rfl rfl ?_ ?_
                  | refine AK.endE Try.hX hf rfl rfl rfl rfl ?_ (by with_reducible rfl)
                  | refine AK.endE Try.hX hf rfl rfl rfl rfl ?_ ?_
                  | refine AK.region Try.mixed rfl ?_
                  | refine AOps.done ?_
                  | refine AOps.runS Try.hX kn rfl ?_
                  | refine AOps.box kn rfl rfl rfl rfl rfl rfl ?_
                  | refine AOps.alloc Try.hX kn rfl rfl rfl rfl rfl rfl rfl ?_
                  | refine AOps.store Try.hX kn rfl rfl rfl rfl rfl rfl rfl rfl rfl rfl rfl ?_
                  | refine AOps.buildSlice Try.hX kn rfl rfl rfl rfl rfl rfl rfl rfl rfl rfl rfl rfl ?_
                  | refine AOps.append Try.hX kn rfl rfl rfl rfl rfl rfl rfl rfl rfl rfl rfl rfl rfl rfl rfl rfl rfl rfl rfl rfl rfl ?_ ?_
                  | refine AOps.toStr Try.hX kn rfl rfl rfl rfl rfl rfl rfl rfl rfl rfl rfl (by first | exact rfl | exact byte1 _) rfl ?_
                  | refine AOps.buildArr Try.hX kn rfl rfl rfl rfl rfl rfl rfl rfl ?_
                  | refine AOps.indexArr Try.hX kn rfl rfl rfl rfl rfl rfl rfl rfl rfl rfl rfl rfl ?_
                  | refine AOps.runP1 Try.hX kn rfl rfl ?_
                  | (refine AOps.splitT rfl rfl rfl (by first | with_reducible assumption | (simp only [cond_true, cond_false, Bool.not_true, Bool.not_false, bne_self_eq_false, Int.reduceBNe, Int.reduceBEq]; with_reducible assumption)) (fun h => ?_) <;> (fail_if_success (cases h; done)) <;> rw [h])
                  | (refine AOps.splitF rfl rfl rfl (by first | with_reducible assumption | (simp only [cond_true, cond_false, Bool.not_true, Bool.not_false, bne_self_eq_false, Int.reduceBNe, Int.reduceBEq]; with_reducible assumption)) (fun h => ?_) <;> (fail_if_success (cases h; done)) <;> rw [h])
                  | (refine AOps.split rfl rfl rfl (fun h => ?_) (fun h => ?_) <;> (fail_if_success (cases h; done)) <;> rw [h])
                  | refine AOps.drawn (by kernel_rfl) ?_)
                all_goals rfl
        · rw [args_no _ _ _ _ _ (.inl (by rw [hne]; omega))]
          rw [hne, hnr] at hnum
          have h4 := bad_set [] (IntKind.i64.wrap (k + 1)) 1 1 (by omega)
          rcases bool_of (numVal (s) < 0) with ⟨c5, _⟩ | ⟨c5, _⟩ <;> rcases bool_of (numVal (s) > 0) with ⟨c6, _⟩ | ⟨c6, _⟩
          all_goals
            refine ECalls.ofL Try.func108 rfl (fun args w => Try.call108 args w) (Nat.le_of_ble_eq_true rfl) [(0, .ptr 1000000 0), (1, .c (.int .i64 (25 - ((g + 1 : Nat) : Int))))] [(1000000, [.c (.str (c :: s)), .c (.int .i64 k), .c (.int .i64 0)])] [] [1000000] rfl rfl fun β => ?_; have hf := Try.func108
            repeat' (first
              | refine AK.runP Try.hX Try.mixed 300 rfl ?_
              | refine AK.condTe rfl (by first | with_reducible assumption | (simp only [cond_true, cond_false, Bool.not_true, Bool.not_false, bne_self_eq_false, Int.reduceBNe, Int.reduceBEq]; with_reducible assumption)) ?_
              | refine AK.condFe rfl (by first | with_reducible assumption | (simp only [cond_true, cond_false, Bool.not_true, Bool.not_false, bne_self_eq_false, Int.reduceBNe, Int.reduceBEq]; with_reducible assumption)) ?_
              | (refine AK.condS rfl (fun h => ?_) (fun h => ?_) <;> first | (cases h; done) | rw [h] | skip)
              | refine AK.retQ Try.hX hf rfl rfl ?_
              | refine AK.retE Try.hX hf rfl rfl rfl rfl ?_ (by with_reducible rfl)
              | refine AK.retE Try.hX hf rfl rfl rfl rfl ?_ ?_
              | refine AK.endE Try.hX hf rfl rfl rfl rfl ?_ (by with_reducible rfl)
              | refine AK.endE Try.hX hf rfl rfl rfl rfl ?_ ?_
              | refine AK.region Try.mixed rfl ?_
              | refine AOps.done ?_
              | refine AOps.runS Try.hX kn rfl ?_
              | refine AOps.calle kn rfl rfl (hbyte) rfl ⟨_, _, _, rfl, rfl, ⟨_, _, rfl, rfl, ⟨_, _, rfl, rfl, ⟨_, _, rfl, rfl, rfl⟩⟩⟩, rfl⟩ rfl rfl rfl rfl rfl rfl rfl rfl rfl rfl rfl rfl rfl rfl ?_
              | refine AOps.calle kn rfl rfl (hnum) rfl ⟨_, _, _, rfl, rfl, ⟨_, _, rfl, rfl, ⟨_, _, rfl, rfl, ⟨_, _, rfl, rfl, rfl⟩⟩⟩, rfl⟩ rfl rfl rfl rfl rfl rfl rfl rfl rfl rfl rfl rfl rfl rfl ?_
              | refine AOps.calle kn rfl rfl (h4) rfl ⟨_, _, _, rfl, rfl, ⟨_, _, rfl, rfl, ⟨_, _, rfl, rfl, ⟨_, _, rfl, rfl, rfl⟩⟩⟩, ⟨_, _, rfl, rfl, rfl⟩⟩ rfl rfl rfl rfl rfl rfl rfl rfl rfl rfl rfl rfl rfl rfl ?_
              | refine AOps.box kn rfl rfl rfl rfl rfl rfl ?_
              | refine AOps.alloc Try.hX kn rfl rfl rfl rfl rfl rfl rfl ?_
              | refine AOps.store Try.hX kn rfl rfl rfl rfl rfl rfl rfl rfl rfl rfl rfl ?_
              | refine AOps.buildSlice Try.hX kn rfl rfl rfl rfl rfl rfl rfl rfl rfl rfl rfl rfl ?_
              | refine AOps.append Try.hX kn rfl rfl rfl rfl rfl rfl rfl rfl rfl rfl rfl rfl rfl rfl rfl rfl rfl rfl rfl rfl rfl ?_ ?_
              | refine AOps.toStr Try.hX kn rfl rfl rfl rfl rfl rfl rfl rfl rfl rfl rfl (by first | exact rfl | exact byte1 _) rfl ?_
              | refine AOps.buildArr Try.hX kn rfl rfl rfl rfl rfl rfl rfl rfl ?_
              | refine AOps.indexArr Try.hX kn rfl rfl rfl rfl rfl rfl rfl rfl rfl rfl rfl rfl ?_
              | refine AOps.runP1 Try.hX kn rfl rfl ?_
              | (refine AOps.splitT rfl rfl rfl (by first | with_reducible assumption | (simp only [cond_true, cond_false, Bool.not_true, Bool.not_false, bne_self_eq_false, Int.reduceBNe, Int.reduceBEq]; with_reducible assumption)) (fun h => ?_) <;> (fail_if_success (cases h; done)) <;> rw [h])
              | (refine AOps.splitF rfl rfl rfl (by first | with_reducible assumption | (simp only [cond_true, cond_false, Bool.not_true, Bool.not_false, bne_self_eq_false, Int.reduceBNe, Int.reduceBEq]; with_reducible assumption)) (fun h => ?_) <;> (fail_if_success (cases h; done)) <;> rw [h])
              | (refine AOps.split rfl rfl rfl (fun h => ?_) (fun h => ?_) <;> (fail_if_success (cases h; done)) <;> rw [h])
              | refine AOps.drawn (by kernel_rfl) ?_)
            refine AK.loopE (α := Unit) (fun _ => True) (fun _ => 0)
              (fun _ => [(7, .c (.int .i64 (numVal (s)))), (0, .ptr 1000000 0), (1, .c (.int .i64 (25 - ((g + 1 : Nat) : Int)))), (4, .ptr 4 0), (5, .ptr 5 0)])
              (fun _ => [(4, [.c (.int .i64 0), .c (.int .i64 0), .c (.int .i64 0), .c (.str []), .own .exact 5 []]), (5, [.c (.int .i64 ((3 : Nat) : Int)), .c (.int .i64 0), .c (.int .i64 0), .c (.str []), .own .exact 5 []]), (1000000, [.c (.str []), .c (.int .i64 (IntKind.i64.wrap (k + 1))), .c (.int .i64 1)])]) (fun _ => []) [4, 5, 1000000] ()
              trivial ⟨.inl rfl, .inl rfl, .inl rfl, .inl rfl, .inl rfl, trivial⟩ ⟨rfl, rfl, rfl, trivial⟩ trivial rfl rfl rfl ?_
            rintro _ _ ih
            clear ih
            repeat' (first
              | refine AK.runP Try.hX Try.mixed 300 rfl ?_
              | refine AK.condTe rfl (by first | with_reducible assumption | (simp only [cond_true, cond_false, Bool.not_true, Bool.not_false, bne_self_eq_false, Int.reduceBNe, Int.reduceBEq]; with_reducible assumption)) ?_
              | refine AK.condFe rfl (by first | with_reducible assumption | (simp only [cond_true, cond_false, Bool.not_true, Bool.not_false, bne_self_eq_false, Int.reduceBNe, Int.reduceBEq]; with_reducible assumption)) ?_
              | (refine AK.condS rfl (fun h => ?_) (fun h => ?_) <;> first | (cases h; done) | rw [h] | skip)
              | refine AK.retQ Try.hX hf rfl rfl ?_
              | refine AK.retE Try.hX hf rfl rfl rfl rfl ?_ (by with_reducible rfl)
              | refine AK.retE Try.hX hf rfl rfl rfl rfl ?_ ?_
              | refine AK.endE Try.hX hf rfl rfl rfl rfl ?_ (by with_reducible rfl)
              | refine AK.endE Try.hX hf rfl rfl rfl rfl ?_ ?_
              | refine AK.region Try.mixed rfl ?_
              | refine AOps.done ?_
              | refine AOps.runS Try.hX kn rfl ?_
              | refine AOps.box kn rfl rfl rfl rfl rfl rfl ?_
              | refine AOps.alloc Try.hX kn rfl rfl rfl rfl rfl rfl rfl ?_
              | refine AOps.store Try.hX kn rfl rfl rfl rfl rfl rfl rfl rfl rfl rfl rfl ?_
              | refine AOps.buildSlice Try.hX kn rfl rfl rfl rfl rfl rfl rfl rfl rfl rfl rfl rfl ?_
              | refine AOps.append Try.hX kn rfl rfl rfl rfl rfl rfl rfl rfl rfl rfl rfl rfl rfl rfl rfl rfl rfl rfl rfl rfl rfl ?_ ?_
              | refine AOps.toStr Try.hX kn rfl rfl rfl rfl rfl rfl rfl rfl rfl rfl rfl (by first | exact rfl | exact byte1 _) rfl ?_
              | refine AOps.buildArr Try.hX kn rfl rfl rfl rfl rfl rfl rfl rfl ?_
              | refine AOps.indexArr Try.hX kn rfl rfl rfl rfl rfl rfl rfl rfl rfl rfl rfl rfl ?_
              | refine AOps.runP1 Try.hX kn rfl rfl ?_
              | (refine AOps.splitT rfl rfl rfl (by first | with_reducible assumption | (simp only [cond_true, cond_false, Bool.not_true, Bool.not_false, bne_self_eq_false, Int.reduceBNe, Int.reduceBEq]; with_reducible assumption)) (fun h => ?_) <;> (fail_if_success (cases h; done)) <;> rw [h])
              | (refine AOps.splitF rfl rfl rfl (by first | with_reducible assumption | (simp only [cond_true, cond_false, Bool.not_true, Bool.not_false, bne_self_eq_false, Int.reduceBNe, Int.reduceBEq]; with_reducible assumption)) (fun h => ?_) <;> (fail_if_success (cases h; done)) <;> rw [h])
              | (refine AOps.split rfl rfl rfl (fun h => ?_) (fun h => ?_) <;> (fail_if_success (cases h; done)) <;> rw [h])
              | refine AOps.drawn (by kernel_rfl) ?_)
            all_goals first | rfl | (rw [e1])
      · rw [body_no _ _ _ _ (by omega)]
        have f0 : ((q : Int) == 0) = false := by simpa using q0
        have f1 : ((q : Int) == 1) = false := by simp; omega
        have f2 : ((q : Int) == 2) = false := by simp; omega
        have f3 : ((q : Int) == 3) = false := by simp; omega
        have h3 := number_err (IntKind.i64.wrap (k + 1)) 1 (by omega)
        have h4 := bad_zero s (IntKind.i64.wrap (k + 1)) 1
        refine ECalls.ofL Try.func108 rfl (fun args w => Try.call108 args w) (Nat.le_of_ble_eq_true rfl) [(0, .ptr 1000000 0), (1, .c (.int .i64 (25 - ((g + 1 : Nat) : Int))))] [(1000000, [.c (.str (c :: s)), .c (.int .i64 k), .c (.int .i64 0)])] [] [1000000] rfl rfl fun β => ?_; have hf := Try.func108
        repeat' (first
          | refine AK.runP Try.hX Try.mixed 300 rfl ?_
          | refine AK.condTe rfl (by first | with_reducible assumption | (simp only [cond_true, cond_false, Bool.not_true, Bool.not_false, bne_self_eq_false, Int.reduceBNe, Int.reduceBEq]; with_reducible assumption)) ?_
          | refine AK.condFe rfl (by first | with_reducible assumption | (simp only [cond_true, cond_false, Bool.not_true, Bool.not_false, bne_self_eq_false, Int.reduceBNe, Int.reduceBEq]; with_reducible assumption)) ?_
          | (refine AK.condS rfl (fun h => ?_) (fun h => ?_) <;> first | (cases h; done) | rw [h] | skip)
          | refine AK.retQ Try.hX hf rfl rfl ?_
          | refine AK.retE Try.hX hf rfl rfl rfl rfl ?_ (by with_reducible rfl)
          | refine AK.retE Try.hX hf rfl rfl rfl rfl ?_ ?_
          | refine AK.endE Try.hX hf rfl rfl rfl rfl ?_ (by with_reducible rfl)
          | refine AK.endE Try.hX hf rfl rfl rfl rfl ?_ ?_
          | refine AK.region Try.mixed rfl ?_
          | refine AOps.done ?_
          | refine AOps.runS Try.hX kn rfl ?_
          | refine AOps.calle kn rfl rfl (hbyte) rfl ⟨_, _, _, rfl, rfl, ⟨_, _, rfl, rfl, ⟨_, _, rfl, rfl, ⟨_, _, rfl, rfl, rfl⟩⟩⟩, rfl⟩ rfl rfl rfl rfl rfl rfl rfl rfl rfl rfl rfl rfl rfl rfl ?_
          | refine AOps.calle kn rfl rfl (h3) rfl ⟨_, _, _, rfl, rfl, ⟨_, _, rfl, rfl, ⟨_, _, rfl, rfl, ⟨_, _, rfl, rfl, rfl⟩⟩⟩, rfl⟩ rfl rfl rfl rfl rfl rfl rfl rfl rfl rfl rfl rfl rfl rfl ?_
          | refine AOps.calle kn rfl rfl (h4) rfl ⟨_, _, _, rfl, rfl, ⟨_, _, rfl, rfl, ⟨_, _, rfl, rfl, ⟨_, _, rfl, rfl, rfl⟩⟩⟩, ⟨_, _, rfl, rfl, rfl⟩⟩ rfl rfl rfl rfl rfl rfl rfl rfl rfl rfl rfl rfl rfl rfl ?_
          | refine AOps.box kn rfl rfl rfl rfl rfl rfl ?_
          | refine AOps.alloc Try.hX kn rfl rfl rfl rfl rfl rfl rfl ?_
          | refine AOps.store Try.hX kn rfl rfl rfl rfl rfl rfl rfl rfl rfl rfl rfl ?_
          | refine AOps.buildSlice Try.hX kn rfl rfl rfl rfl rfl rfl rfl rfl rfl rfl rfl rfl ?_
          | refine AOps.append Try.hX kn rfl rfl rfl rfl rfl rfl rfl rfl rfl rfl rfl rfl rfl rfl rfl rfl rfl rfl rfl rfl rfl ?_ ?_
          | refine AOps.toStr Try.hX kn rfl rfl rfl rfl rfl rfl rfl rfl rfl rfl rfl (by first | exact rfl | exact byte1 _) rfl ?_
          | refine AOps.buildArr Try.hX kn rfl rfl rfl rfl rfl rfl rfl rfl ?_
          | refine AOps.indexArr Try.hX kn rfl rfl rfl rfl rfl rfl rfl rfl rfl rfl rfl rfl ?_
          | refine AOps.runP1 Try.hX kn rfl rfl ?_
          | (refine AOps.splitT rfl rfl rfl (by first | with_reducible assumption | (simp only [cond_true, cond_false, Bool.not_true, Bool.not_false, bne_self_eq_false, Int.reduceBNe, Int.reduceBEq]; with_reducible assumption)) (fun h => ?_) <;> (fail_if_success (cases h; done)) <;> rw [h])
          | (refine AOps.splitF rfl rfl rfl (by first | with_reducible assumption | (simp only [cond_true, cond_false, Bool.not_true, Bool.not_false, bne_self_eq_false, Int.reduceBNe, Int.reduceBEq]; with_reducible assumption)) (fun h => ?_) <;> (fail_if_success (cases h; done)) <;> rw [h])
          | (refine AOps.split rfl rfl rfl (fun h => ?_) (fun h => ?_) <;> (fail_if_success (cases h; done)) <;> rw [h])
          | refine AOps.drawn (by kernel_rfl) ?_)
        refine AK.loopE (α := Unit) (fun _ => True) (fun _ => 0)
          (fun _ => [(7, .c (.int .i64 0)), (0, .ptr 1000000 0), (1, .c (.int .i64 (25 - ((g + 1 : Nat) : Int)))), (4, .ptr 4 0), (5, .ptr 5 0)])
          (fun _ => [(4, [.c (.int .i64 0), .c (.int .i64 0), .c (.int .i64 0), .c (.str []), .own .exact 5 []]), (5, [.c (.int .i64 (q : Int)), .c (.int .i64 0), .c (.int .i64 0), .c (.str []), .own .exact 5 []]), (1000000, [.c (.str []), .c (.int .i64 (IntKind.i64.wrap (k + 1))), .c (.int .i64 1)])]) (fun _ => []) [4, 5, 1000000] ()
          trivial ⟨.inl rfl, .inl rfl, .inl rfl, .inl rfl, .inl rfl, trivial⟩ ⟨rfl, rfl, rfl, trivial⟩ trivial rfl rfl rfl ?_
        rintro _ _ ih
        clear ih
        repeat' (first
          | refine AK.runP Try.hX Try.mixed 300 rfl ?_
          | refine AK.condTe rfl (by first | with_reducible assumption | (simp only [cond_true, cond_false, Bool.not_true, Bool.not_false, bne_self_eq_false, Int.reduceBNe, Int.reduceBEq]; with_reducible assumption)) ?_
          | refine AK.condFe rfl (by first | with_reducible assumption | (simp only [cond_true, cond_false, Bool.not_true, Bool.not_false, bne_self_eq_false, Int.reduceBNe, Int.reduceBEq]; with_reducible assumption)) ?_
          | (refine AK.condS rfl (fun h => ?_) (fun h => ?_) <;> first | (cases h; done) | rw [h] | skip)
          | refine AK.retQ Try.hX hf rfl rfl ?_
          | refine AK.retE Try.hX hf rfl rfl rfl rfl ?_ (by with_reducible rfl)
          | refine AK.retE Try.hX hf rfl rfl rfl rfl ?_ ?_
          | refine AK.endE Try.hX hf rfl rfl rfl rfl ?_ (by with_reducible rfl)
          | refine AK.endE Try.hX hf rfl rfl rfl rfl ?_ ?_
          | refine AK.region Try.mixed rfl ?_
          | refine AOps.done ?_
          | refine AOps.runS Try.hX kn rfl ?_
          | refine AOps.box kn rfl rfl rfl rfl rfl rfl ?_
          | refine AOps.alloc Try.hX kn rfl rfl rfl rfl rfl rfl rfl ?_
          | refine AOps.store Try.hX kn rfl rfl rfl rfl rfl rfl rfl rfl rfl rfl rfl ?_
          | refine AOps.buildSlice Try.hX kn rfl rfl rfl rfl rfl rfl rfl rfl rfl rfl rfl rfl ?_
          | refine AOps.append Try.hX kn rfl rfl rfl rfl rfl rfl rfl rfl rfl rfl rfl rfl rfl rfl rfl rfl rfl rfl rfl rfl rfl ?_ ?_
          | refine AOps.toStr Try.hX kn rfl rfl rfl rfl rfl rfl rfl rfl rfl rfl rfl (by first | exact rfl | exact byte1 _) rfl ?_
          | refine AOps.buildArr Try.hX kn rfl rfl rfl rfl rfl rfl rfl rfl ?_
          | refine AOps.indexArr Try.hX kn rfl rfl rfl rfl rfl rfl rfl rfl rfl rfl rfl rfl ?_
          | refine AOps.runP1 Try.hX kn rfl rfl ?_
          | (refine AOps.splitT rfl rfl rfl (by first | with_reducible assumption | (simp only [cond_true, cond_false, Bool.not_true, Bool.not_false, bne_self_eq_false, Int.reduceBNe, Int.reduceBEq]; with_reducible assumption)) (fun h => ?_) <;> (fail_if_success (cases h; done)) <;> rw [h])
          | (refine AOps.splitF rfl rfl rfl (by first | with_reducible assumption | (simp only [cond_true, cond_false, Bool.not_true, Bool.not_false, bne_self_eq_false, Int.reduceBNe, Int.reduceBEq]; with_reducible assumption)) (fun h => ?_) <;> (fail_if_success (cases h; done)) <;> rw [h])
          | (refine AOps.split rfl rfl rfl (fun h => ?_) (fun h => ?_) <;> (fail_if_success (cases h; done)) <;> rw [h])
          | refine AOps.drawn (by kernel_rfl) ?_)
        all_goals first | rfl | (rw [e1])

attribute [local irreducible] tDecode
theorem tDecode_eq (s : List UInt8) : tDecode s = match rdNode 24 s 300 with
  | .no e => (nd0, e)
  | .ok n r _ => if r = [] then (n, 0) else (nd0, 1) := by unfold tDecode; rfl

set_option maxHeartbeats 0 in
theorem Decode_calls (s : List UInt8) : QCalls Try.prog Try.X 63 [.str s] (.tup [encNd (tDecode s).1, .int .i64 (tDecode s).2]) := by
  have h1 := rdnode_calls 24 s 0 (by omega) (by omega) (by omega)
  have hl := rdX_like 24 s 300 (by omega)
  rw [show (300 : Int) - ((300 : Nat) : Int) = 0 from rfl] at hl
  rw [show (25 : Int) - ((24 : Nat) : Int) = 1 from rfl] at h1
  rw [tDecode_eq]
  cases hr : rdNode 24 s 300 with
  | no e =>
    rw [hr] at hl
    simp only [Like] at hl
    rcases hx : rdX 24 s 0 with ⟨⟨y1, y2, y3, y4, y5⟩, s2, k2, e2⟩
    rw [hx] at h1 hl
    simp only at h1 hl
    obtain ⟨rfl, rfl, he⟩ := hl
    have c1 : (e2 == 0) = false := by simpa using he
    have c2 : (e2 != 0) = true := by simpa using he
    refine QCalls.of Try.func63 rfl (fun args w => Try.call63 args w) (Nat.le_of_ble_eq_true rfl) [(0, .c (.str s))] rfl fun β hβ => ?_; have hf := Try.func63
    repeat' (first
      | refine AK.runP Try.hX Try.mixed 300 rfl ?_
      | refine AK.condTe rfl (by first | with_reducible assumption | (simp only [cond_true, cond_false, Bool.not_true, Bool.not_false, bne_self_eq_false, Int.reduceBNe, Int.reduceBEq]; with_reducible assumption)) ?_
      | refine AK.condFe rfl (by first | with_reducible assumption | (simp only [cond_true, cond_false, Bool.not_true, Bool.not_false, bne_self_eq_false, Int.reduceBNe, Int.reduceBEq]; with_reducible assumption)) ?_
      | (refine AK.condS rfl (fun h => ?_) (fun h => ?_) <;> first | (cases h; done) | rw [h] | skip)
      | refine AK.retQ Try.hX hf rfl rfl ?_
      | refine AK.retE Try.hX hf rfl rfl rfl rfl ?_ (by with_reducible rfl)
      | refine AK.retE Try.hX hf rfl rfl rfl rfl ?_ ?_
      | refine AK.endE Try.hX hf rfl rfl rfl rfl ?_ (by with_reducible rfl)
      | refine AK.endE Try.hX hf rfl rfl rfl rfl ?_ ?_
      | refine AK.region Try.mixed rfl ?_
      | refine AOps.done ?_
      | refine AOps.runS Try.hX kn rfl ?_
      | refine AOps.calle kn rfl rfl (h1) rfl ⟨_, _, _, rfl, rfl, ⟨_, _, rfl, rfl, ⟨_, _, rfl, rfl, ⟨_, _, rfl, rfl, rfl⟩⟩⟩, ⟨_, _, rfl, rfl, rfl⟩⟩ rfl rfl rfl rfl rfl rfl rfl rfl rfl rfl rfl rfl rfl rfl ?_
      | refine AOps.box kn rfl rfl rfl rfl rfl rfl ?_
      | refine AOps.alloc Try.hX kn rfl rfl rfl rfl rfl rfl rfl ?_
      | refine AOps.store Try.hX kn rfl rfl rfl rfl rfl rfl rfl rfl rfl rfl rfl ?_
      | refine AOps.buildSlice Try.hX kn rfl rfl rfl rfl rfl rfl rfl rfl rfl rfl rfl rfl ?_
      | refine AOps.append Try.hX kn rfl rfl rfl rfl rfl rfl rfl rfl rfl rfl rfl rfl rfl rfl rfl rfl rfl rfl rfl rfl rfl ?_ ?_
      | refine AOps.toStr Try.hX kn rfl rfl rfl rfl rfl rfl rfl rfl rfl rfl rfl (by first | exact rfl | exact byte1 _) rfl ?_
      | refine AOps.buildArr Try.hX kn rfl rfl rfl rfl rfl rfl rfl rfl ?_
      | refine AOps.indexArr Try.hX kn rfl rfl rfl rfl rfl rfl rfl rfl rfl rfl rfl rfl ?_
      | refine AOps.runP1 Try.hX kn rfl rfl ?_
      | (refine AOps.splitT rfl rfl rfl (by first | with_reducible assumption | (simp only [cond_true, cond_false, Bool.not_true, Bool.not_false, bne_self_eq_false, Int.reduceBNe, Int.reduceBEq]; with_reducible assumption)) (fun h => ?_) <;> (fail_if_success (cases h; done)) <;> rw [h])
      | (refine AOps.splitF rfl rfl rfl (by first | with_reducible assumption | (simp only [cond_true, cond_false, Bool.not_true, Bool.not_false, bne_self_eq_false, Int.reduceBNe, Int.reduceBEq]; with_reducible assumption)) (fun h => ?_) <;> (fail_if_success (cases h; done)) <;> rw [h])
      | (refine AOps.split rfl rfl rfl (fun h => ?_) (fun h => ?_) <;> (fail_if_success (cases h; done)) <;> rw [h])
      | refine AOps.drawn (by kernel_rfl) ?_)
    all_goals rfl
  | ok n r l =>
    rw [hr] at hl
    simp only [Like] at hl
    rw [hl.1] at h1
    simp only at h1
    obtain ⟨y1, y2, y3, y4, y5⟩ := n
    cases r with
    | nil =>
      refine QCalls.of Try.func63 rfl (fun args w => Try.call63 args w) (Nat.le_of_ble_eq_true rfl) [(0, .c (.str s))] rfl fun β hβ => ?_; have hf := Try.func63
      repeat' (first
        | refine AK.runP Try.hX Try.mixed 300 rfl ?_
        | refine AK.condTe rfl (by first | with_reducible assumption | (simp only [cond_true, cond_false, Bool.not_true, Bool.not_false, bne_self_eq_false, Int.reduceBNe, Int.reduceBEq]; with_reducible assumption)) ?_
        | refine AK.condFe rfl (by first | with_reducible assumption | (simp only [cond_true, cond_false, Bool.not_true, Bool.not_false, bne_self_eq_false, Int.reduceBNe, Int.reduceBEq]; with_reducible assumption)) ?_
        | (refine AK.condS rfl (fun h => ?_) (fun h => ?_) <;> first | (cases h; done) | rw [h] | skip)
        | refine AK.retQ Try.hX hf rfl rfl ?_
        | refine AK.retE Try.hX hf rfl rfl rfl rfl ?_ (by with_reducible rfl)
        | refine AK.retE Try.hX hf rfl rfl rfl rfl ?_ ?_
        | refine AK.endE Try.hX hf rfl rfl rfl rfl ?_ (by with_reducible rfl)
        | refine AK.endE Try.hX hf rfl rfl rfl rfl ?_ ?_
        | refine AK.region Try.mixed rfl ?_
        | refine AOps.done ?_
        | refine AOps.runS Try.hX kn rfl ?_
        | refine AOps.calle kn rfl rfl (h1) rfl ⟨_, _, _, rfl, rfl, ⟨_, _, rfl, rfl, ⟨_, _, rfl, rfl, ⟨_, _, rfl, rfl, rfl⟩⟩⟩, ⟨_, _, rfl, rfl, rfl⟩⟩ rfl rfl rfl rfl rfl rfl rfl rfl rfl rfl rfl rfl rfl rfl ?_
        | refine AOps.box kn rfl rfl rfl rfl rfl rfl ?_
        | refine AOps.alloc Try.hX kn rfl rfl rfl rfl rfl rfl rfl ?_
        | refine AOps.store Try.hX kn rfl rfl rfl rfl rfl rfl rfl rfl rfl rfl rfl ?_
        | refine AOps.buildSlice Try.hX kn rfl rfl rfl rfl rfl rfl rfl rfl rfl rfl rfl rfl ?_
        | refine AOps.append Try.hX kn rfl rfl rfl rfl rfl rfl rfl rfl rfl rfl rfl rfl rfl rfl rfl rfl rfl rfl rfl rfl rfl ?_ ?_
        | refine AOps.toStr Try.hX kn rfl rfl rfl rfl rfl rfl rfl rfl rfl rfl rfl (by first | exact rfl | exact byte1 _) rfl ?_
        | refine AOps.buildArr Try.hX kn rfl rfl rfl rfl rfl rfl rfl rfl ?_
        | refine AOps.indexArr Try.hX kn rfl rfl rfl rfl rfl rfl rfl rfl rfl rfl rfl rfl ?_
        | refine AOps.runP1 Try.hX kn rfl rfl ?_
        | (refine AOps.splitT rfl rfl rfl (by first | with_reducible assumption | (simp only [cond_true, cond_false, Bool.not_true, Bool.not_false, bne_self_eq_false, Int.reduceBNe, Int.reduceBEq]; with_reducible assumption)) (fun h => ?_) <;> (fail_if_success (cases h; done)) <;> rw [h])
        | (refine AOps.splitF rfl rfl rfl (by first | with_reducible assumption | (simp only [cond_true, cond_false, Bool.not_true, Bool.not_false, bne_self_eq_false, Int.reduceBNe, Int.reduceBEq]; with_reducible assumption)) (fun h => ?_) <;> (fail_if_success (cases h; done)) <;> rw [h])
        | (refine AOps.split rfl rfl rfl (fun h => ?_) (fun h => ?_) <;> (fail_if_success (cases h; done)) <;> rw [h])
        | refine AOps.drawn (by kernel_rfl) ?_)
      all_goals rfl
    | cons c r =>
      have h2 := bad_zero (c :: r) (300 - (l : Int)) 1
      refine QCalls.of Try.func63 rfl (fun args w => Try.call63 args w) (Nat.le_of_ble_eq_true rfl) [(0, .c (.str s))] rfl fun β hβ => ?_; have hf := Try.func63
      repeat' (first
        | refine AK.runP Try.hX Try.mixed 300 rfl ?_
        | refine AK.condTe rfl (by first | with_reducible assumption | (simp only [cond_true, cond_false, Bool.not_true, Bool.not_false, bne_self_eq_false, Int.reduceBNe, Int.reduceBEq]; with_reducible assumption)) ?_
        | refine AK.condFe rfl (by first | with_reducible assumption | (simp only [cond_true, cond_false, Bool.not_true, Bool.not_false, bne_self_eq_false, Int.reduceBNe, Int.reduceBEq]; with_reducible assumption)) ?_
        | (refine AK.condS rfl (fun h => ?_) (fun h => ?_) <;> first | (cases h; done) | rw [h] | skip)
        | refine AK.retQ Try.hX hf rfl rfl ?_
        | refine AK.retE Try.hX hf rfl rfl rfl rfl ?_ (by with_reducible rfl)
        | refine AK.retE Try.hX hf rfl rfl rfl rfl ?_ ?_
        | refine AK.endE Try.hX hf rfl rfl rfl rfl ?_ (by with_reducible rfl)
        | refine AK.endE Try.hX hf rfl rfl rfl rfl ?_ ?_
        | refine AK.region Try.mixed rfl ?_
        | refine AOps.done ?_
        | refine AOps.runS Try.hX kn rfl ?_
        | refine AOps.calle kn rfl rfl (h1) rfl ⟨_, _, _, rfl, rfl, ⟨_, _, rfl, rfl, ⟨_, _, rfl, rfl, ⟨_, _, rfl, rfl, rfl⟩⟩⟩, ⟨_, _, rfl, rfl, rfl⟩⟩ rfl rfl rfl rfl rfl rfl rfl rfl rfl rfl rfl rfl rfl rfl ?_
        | refine AOps.calle kn rfl rfl (h2) rfl ⟨_, _, _, rfl, rfl, ⟨_, _, rfl, rfl, ⟨_, _, rfl, rfl, ⟨_, _, rfl, rfl, rfl⟩⟩⟩, ⟨_, _, rfl, rfl, rfl⟩⟩ rfl rfl rfl rfl rfl rfl rfl rfl rfl rfl rfl rfl rfl rfl ?_
        | refine AOps.box kn rfl rfl rfl rfl rfl rfl ?_
        | refine AOps.alloc Try.hX kn rfl rfl rfl rfl rfl rfl rfl ?_
        | refine AOps.store Try.hX kn rfl rfl rfl rfl rfl rfl rfl rfl rfl rfl rfl ?_
        | refine AOps.buildSlice Try.hX kn rfl rfl rfl rfl rfl rfl rfl rfl rfl rfl rfl rfl ?_
        | refine AOps.append Try.hX kn rfl rfl rfl rfl rfl rfl rfl rfl rfl rfl rfl rfl rfl rfl rfl rfl rfl rfl rfl rfl rfl ?_ ?_
        | refine AOps.toStr Try.hX kn rfl rfl rfl rfl rfl rfl rfl rfl rfl rfl rfl (by first | exact rfl | exact byte1 _) rfl ?_
        | refine AOps.buildArr Try.hX kn rfl rfl rfl rfl rfl rfl rfl rfl ?_
        | refine AOps.indexArr Try.hX kn rfl rfl rfl rfl rfl rfl rfl rfl rfl rfl rfl rfl ?_
        | refine AOps.runP1 Try.hX kn rfl rfl ?_
        | (refine AOps.splitT rfl rfl rfl (by first | with_reducible assumption | (simp only [cond_true, cond_false, Bool.not_true, Bool.not_false, bne_self_eq_false, Int.reduceBNe, Int.reduceBEq]; with_reducible assumption)) (fun h => ?_) <;> (fail_if_success (cases h; done)) <;> rw [h])
        | (refine AOps.splitF rfl rfl rfl (by first | with_reducible assumption | (simp only [cond_true, cond_false, Bool.not_true, Bool.not_false, bne_self_eq_false, Int.reduceBNe, Int.reduceBEq]; with_reducible assumption)) (fun h => ?_) <;> (fail_if_success (cases h; done)) <;> rw [h])
        | (refine AOps.split rfl rfl rfl (fun h => ?_) (fun h => ?_) <;> (fail_if_success (cases h; done)) <;> rw [h])
        | refine AOps.drawn (by kernel_rfl) ?_)
      all_goals rfl
end Go.Proofs
