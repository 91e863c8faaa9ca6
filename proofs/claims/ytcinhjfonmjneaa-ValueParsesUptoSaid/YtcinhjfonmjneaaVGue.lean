/- What node of package tree's reader and Decode answer. What nodes, node, Node, Told, Pack, Parse and Unpack of package value answer. The tree that tells a value, as touchstoneref's dataNode makes it. What guess of touchstoneref answers; what is read as a value is what guess answers, where that is told so. -/
import Derived.Test.YtcinhjfonmjneaaTree4
-- WIDE
set_option linter.unusedVariables false
set_option linter.unusedSimpArgs false
namespace Go.Proofs
open Go.Abs

theorem rdX_zero (s : List UInt8) (k : Int) : rdX 0 s k = ⟨nd0, [], k + 1, 4⟩ := rfl
theorem rdX_many (g : Nat) (s : List UInt8) (k : Int) (h : k + 1 > 300) : rdX (g + 1) s k = ⟨nd0, [], k + 1, 4⟩ := by simp only [rdX, if_pos h]
theorem rdX_nil (g : Nat) (k : Int) (h : ¬ (k + 1 > 300)) : rdX (g + 1) [] k = ⟨nd0, [], k + 1, 1⟩ := by simp only [rdX, if_neg h]
theorem rdX_cons (g : Nat) (c : UInt8) (s : List UInt8) (k : Int) (h : ¬ (k + 1 > 300)) : rdX (g + 1) (c :: s) k = rdBodyX (rdX g) c.toNat s (k + 1) := by simp only [rdX, if_neg h]
theorem body0 (f : List UInt8 → Int → RX) (s : List UInt8) (k : Int) : rdBodyX f 0 s k = ⟨.mk 0 (numVal s) 0 [] [], numRest s, k, numErr s⟩ := rfl
theorem body1_bad (f : List UInt8 → Int → RX) (s : List UInt8) (k : Int) (h : numVal s < 0 ∨ numVal s > 200 ∨ numVal s > (numRest s).length) : rdBodyX f 1 s k = ⟨.mk 1 0 0 [] [], [], k, 1⟩ := by simp only [rdBodyX, if_pos h]; rfl
theorem body1_good (f : List UInt8 → Int → RX) (s : List UInt8) (k : Int) (h : ¬ (numVal s < 0 ∨ numVal s > 200 ∨ numVal s > (numRest s).length)) : rdBodyX f 1 s k = ⟨.mk 1 0 0 ((numRest s).take (numVal s).toNat) [], (numRest s).drop (numVal s).toNat, k, numErr s⟩ := by simp only [rdBodyX, if_neg h]; rfl
theorem body2_nil (f : List UInt8 → Int → RX) (k : Int) : rdBodyX f 2 [] k = ⟨.mk 2 0 0 [] [], [], k, 1⟩ := rfl
theorem body2_good (f : List UInt8 → Int → RX) (p : UInt8) (s : List UInt8) (k : Int) (h : primP p.toNat = true) : rdBodyX f 2 (p :: s) k = rdArgsX f 2 p.toNat s k := by simp [rdBodyX, h]
theorem body2_bad (f : List UInt8 → Int → RX) (p : UInt8) (s : List UInt8) (k : Int) (h : primP p.toNat = false) : rdBodyX f 2 (p :: s) k = ⟨.mk 2 0 p.toNat [] [], [], k, 1⟩ := by simp [rdBodyX, h]
theorem body3 (f : List UInt8 → Int → RX) (s : List UInt8) (k : Int) : rdBodyX f 3 s k = rdArgsX f 3 0 s k := rfl
theorem body_no (f : List UInt8 → Int → RX) (c : Nat) (s : List UInt8) (k : Int) (h : c > 3) : rdBodyX f c s k = ⟨.mk c 0 0 [] [], [], k, 1⟩ := by
  simp only [rdBodyX]; rw [if_neg (by omega), if_neg (by omega), if_neg (by omega), if_neg (by omega)]
theorem args_no (f : List UInt8 → Int → RX) (kind p : Int) (s : List UInt8) (k : Int) (h : numErr s ≠ 0 ∨ numVal s < 0) : rdArgsX f kind p s k = ⟨.mk kind 0 p [] [], [], k, 1⟩ := by simp only [rdArgsX, if_pos h]
theorem args_go (f : List UInt8 → Int → RX) (kind p : Int) (s : List UInt8) (k : Int) (h : ¬ (numErr s ≠ 0 ∨ numVal s < 0)) : rdArgsX f kind p s k = ⟨.mk kind 0 p [] (rdRowX f (numVal s).toNat (numRest s) k 0).1, (rdRowX f (numVal s).toNat (numRest s) k 0).2.1, (rdRowX f (numVal s).toNat (numRest s) k 0).2.2.1, (rdRowX f (numVal s).toNat (numRest s) k 0).2.2.2⟩ := by simp only [rdArgsX, if_neg h]
theorem rowX_zero (f : List UInt8 → Int → RX) (s : List UInt8) (k e : Int) : rdRowX f 0 s k e = ([], s, k, e) := rfl
theorem rowX_err (f : List UInt8 → Int → RX) (v : Nat) (s : List UInt8) (k e : Int) (h : e ≠ 0) : rdRowX f v s k e = ([], s, k, e) := by
  cases v with
  | zero => rfl
  | succ v => simp only [rdRowX, if_pos h]
theorem rowX_more (f : List UInt8 → Int → RX) (v : Nat) (s : List UInt8) (k : Int) : rdRowX f (v + 1) s k 0 = ((f s k).n :: (rdRowX f v (f s k).s (f s k).k (f s k).e).1, (rdRowX f v (f s k).s (f s k).k (f s k).e).2) := by simp [rdRowX]
theorem numVal_bound {s : List UInt8} (h : numErr s = 0) : -maxI ≤ numVal s ∧ numVal s ≤ maxI := by
  cases hn : takeNum s with
  | none => rw [(num_none hn).2] at h; simp at h
  | some x =>
    obtain ⟨n, r⟩ := x
    rw [(num_some hn).1]
    exact (takeNum_some hn).2
theorem numErr_cases (s : List UInt8) : numErr s = 0 ∨ numErr s = 1 ∧ numRest s = [] := by
  cases hn : takeNum s with
  | none => right; exact ⟨(num_none hn).2, (num_none hn).1⟩
  | some x => left; exact (num_some hn).2.2
theorem number_err (k e : Int) (he : e ≠ 0) : ECalls Try.prog Try.X 133 [.box [.c (.str []), .c (.int .i64 k), .c (.int .i64 e)]] [.c (.int .i64 0)] [(0, [.c (.str []), .c (.int .i64 k), .c (.int .i64 e)])] := by
  have h1 := byte_err k e he
  refine ECalls.ofL Try.func133 rfl (fun args w => Try.call133 args w) (Nat.le_of_ble_eq_true rfl) [(0, .ptr 1000000 0)] [(1000000, [.c (.str []), .c (.int .i64 k), .c (.int .i64 e)])] [] [1000000] rfl rfl fun β => ?_; have hf := Try.func133
  repeat' (first | refine st ?_ | (refine AK.condS rfl (fun h => ?_) (fun h => ?_) <;> first | (cases h; done) | rw [h] | skip) | refine AK.retE Try.hX hf rfl rfl rfl rfl ?_ (by with_reducible rfl) | refine AK.retE Try.hX hf rfl rfl rfl rfl ?_ ?_ | refine AK.endE Try.hX hf rfl rfl rfl rfl ?_ (by with_reducible rfl) | refine AK.endE Try.hX hf rfl rfl rfl rfl ?_ ?_ | refine AOps.calle kn rfl rfl (h1) rfl (by (repeat' (first | exact rfl | exact trivial | refine ⟨_, _, rfl, ?_, ?_⟩ | refine ⟨_, _, _, rfl, rfl, ?_, ?_⟩)); done) rfl rfl rfl rfl rfl rfl rfl rfl rfl rfl rfl rfl rfl rfl ?_ | ((first | refine AOps.splitT rfl rfl rfl asm (fun h => ?_) | refine AOps.splitF rfl rfl rfl asm (fun h => ?_) | refine AOps.split rfl rfl rfl (fun h => ?_) (fun h => ?_)) <;> (fail_if_success (cases h; done)) <;> rw [h]))
  refine AK.loopE (α := Unit) (fun _ => True) (fun _ => 0)
    (fun _ => [(3, .c (.int .i64 0)), (4, .c (.bool (decide ((0 : Nat) / 64 % 2 = 1)))), (5, .c (.int .i64 ((0 % 64 : Nat) : Int))), (0, .ptr 1000000 0)])
    (fun _ => [(1000000, [.c (.str []), .c (.int .i64 k), .c (.int .i64 e)])]) (fun _ => []) [1000000] ()
    trivial ⟨.inl rfl, .inl (congrArg (fun z => some (AV.c (CV.bool z))) (and64 (c := 0) (by omega))), .inl (congrArg (fun z => some (AV.c (CV.int .i64 z))) (and63 (a := 0) (by omega))), .inl rfl, trivial⟩ ⟨rfl, trivial⟩ trivial rfl rfl rfl ?_
  rintro _ _ ih
  clear ih
  repeat' (first | refine st ?_ | (refine AK.condS rfl (fun h => ?_) (fun h => ?_) <;> first | (cases h; done) | rw [h] | skip) | refine AK.retE Try.hX hf rfl rfl rfl rfl ?_ (by with_reducible rfl) | refine AK.retE Try.hX hf rfl rfl rfl rfl ?_ ?_ | refine AK.endE Try.hX hf rfl rfl rfl rfl ?_ (by with_reducible rfl) | refine AK.endE Try.hX hf rfl rfl rfl rfl ?_ ?_ | ((first | refine AOps.splitT rfl rfl rfl asm (fun h => ?_) | refine AOps.splitF rfl rfl rfl asm (fun h => ?_) | refine AOps.split rfl rfl rfl (fun h => ?_) (fun h => ?_)) <;> (fail_if_success (cases h; done)) <;> rw [h]))
  all_goals rfl

attribute [local irreducible] AK AOps QCalls ECalls rdX rdBodyX rdArgsX rdRowX numVal numRest numErr primP

set_option maxHeartbeats 0 in
theorem rdnode_calls : ∀ (g : Nat) (s : List UInt8) (k : Int), g ≤ 24 → 0 ≤ k → k ≤ 300 →
    ECalls Try.prog Try.X 108 [.box [.c (.str s), .c (.int .i64 k), .c (.int .i64 0)], .v (.c (.int .i64 (25 - (g : Int))))] [.c (encNd (rdX g s k).n)] [(0, [.c (.str (rdX g s k).s), .c (.int .i64 (rdX g s k).k), .c (.int .i64 (rdX g s k).e)])]
  | 0, s, k, hg, hk0, hk => by
    rw [rdX_zero]
    have e1 : IntKind.i64.wrap (k + 1) = k + 1 := w64 (by omega) (by omega)
    have h1 := bad_zero s (k + 1) 4
    rw [← e1] at h1
    refine ECalls.ofL Try.func108 rfl (fun args w => Try.call108 args w) (Nat.le_of_ble_eq_true rfl) [(0, .ptr 1000000 0), (1, .c (.int .i64 25))] [(1000000, [.c (.str s), .c (.int .i64 k), .c (.int .i64 0)])] [] [1000000] rfl rfl fun β => ?_; have hf := Try.func108
    repeat' (first | refine st ?_ | (refine AK.condS rfl (fun h => ?_) (fun h => ?_) <;> first | (cases h; done) | rw [h] | skip) | refine AK.retE Try.hX hf rfl rfl rfl rfl ?_ (by with_reducible rfl) | refine AK.retE Try.hX hf rfl rfl rfl rfl ?_ ?_ | refine AK.endE Try.hX hf rfl rfl rfl rfl ?_ (by with_reducible rfl) | refine AK.endE Try.hX hf rfl rfl rfl rfl ?_ ?_ | refine AOps.calle kn rfl rfl (h1) rfl ⟨_, _, _, rfl, rfl, ⟨_, _, rfl, rfl, ⟨_, _, rfl, rfl, ⟨_, _, rfl, rfl, rfl⟩⟩⟩, ⟨_, _, rfl, rfl, rfl⟩⟩ rfl rfl rfl rfl rfl rfl rfl rfl rfl rfl rfl rfl rfl rfl ?_ | (refine uA rfl ?_ ?_ <;> (try (show (_ : Nat) * _ ≤ _; dsimp only))) | ((first | refine AOps.splitT rfl rfl rfl asm (fun h => ?_) | refine AOps.splitF rfl rfl rfl asm (fun h => ?_) | refine AOps.split rfl rfl rfl (fun h => ?_) (fun h => ?_)) <;> (fail_if_success (cases h; done)) <;> rw [h]))
    all_goals first | rfl | (rw [e1])
  | g + 1, s, k, hg, hk0, hk => by
    have e1 : IntKind.i64.wrap (k + 1) = k + 1 := w64 (by omega) (by omega)
    have hin : ∀ (s' : List UInt8) (k' : Int), 0 ≤ k' → k' ≤ 300 → ECalls Try.prog Try.X 108 [.box [.c (.str s'), .c (.int .i64 k'), .c (.int .i64 0)], .v (.c (.int .i64 (IntKind.i64.wrap (25 - ((g + 1 : Nat) : Int) + 1))))] [.c (encNd (rdX g s' k').n)] [(0, [.c (.str (rdX g s' k').s), .c (.int .i64 (rdX g s' k').k), .c (.int .i64 (rdX g s' k').e)])] := by
      intro s' k' h0 h1
      rw [w64 (by omega) (by omega), show (25 - ((g + 1 : Nat) : Int) + 1) = 25 - (g : Int) from by omega]
      exact rdnode_calls g s' k' (by omega) h0 h1
    have c0 : decide ((25 - ((g + 1 : Nat) : Int)) > 24) = false := decide_eq_false (by omega)
    by_cases hmany : k + 1 > 300
    · rw [rdX_many _ _ _ hmany]
      have c1 : decide (IntKind.i64.wrap (k + 1) > 300) = true := decide_eq_true (by rw [e1]; exact hmany)
      have h1 := bad_zero s (IntKind.i64.wrap (k + 1)) 4
      refine ECalls.ofL Try.func108 rfl (fun args w => Try.call108 args w) (Nat.le_of_ble_eq_true rfl) [(0, .ptr 1000000 0), (1, .c (.int .i64 (25 - ((g + 1 : Nat) : Int))))] [(1000000, [.c (.str s), .c (.int .i64 k), .c (.int .i64 0)])] [] [1000000] rfl rfl fun β => ?_; have hf := Try.func108
      repeat' (first | refine st ?_ | (refine AK.condS rfl (fun h => ?_) (fun h => ?_) <;> first | (cases h; done) | rw [h] | skip) | refine AK.retE Try.hX hf rfl rfl rfl rfl ?_ (by with_reducible rfl) | refine AK.retE Try.hX hf rfl rfl rfl rfl ?_ ?_ | refine AK.endE Try.hX hf rfl rfl rfl rfl ?_ (by with_reducible rfl) | refine AK.endE Try.hX hf rfl rfl rfl rfl ?_ ?_ | refine AOps.calle kn rfl rfl (h1) rfl ⟨_, _, _, rfl, rfl, ⟨_, _, rfl, rfl, ⟨_, _, rfl, rfl, ⟨_, _, rfl, rfl, rfl⟩⟩⟩, ⟨_, _, rfl, rfl, rfl⟩⟩ rfl rfl rfl rfl rfl rfl rfl rfl rfl rfl rfl rfl rfl rfl ?_ | (refine uA rfl ?_ ?_ <;> (try (show (_ : Nat) * _ ≤ _; dsimp only))) | ((first | refine AOps.splitT rfl rfl rfl asm (fun h => ?_) | refine AOps.splitF rfl rfl rfl asm (fun h => ?_) | refine AOps.split rfl rfl rfl (fun h => ?_) (fun h => ?_)) <;> (fail_if_success (cases h; done)) <;> rw [h]))
      all_goals first | rfl | (rw [e1])
    have c1 : decide (IntKind.i64.wrap (k + 1) > 300) = false := decide_eq_false (by rw [e1]; exact hmany)
    cases s with
    | nil =>
      rw [rdX_nil _ _ hmany]
      have h1 := byte_nil (IntKind.i64.wrap (k + 1))
      have h2 := number_err (IntKind.i64.wrap (k + 1)) 1 (by omega)
      refine ECalls.ofL Try.func108 rfl (fun args w => Try.call108 args w) (Nat.le_of_ble_eq_true rfl) [(0, .ptr 1000000 0), (1, .c (.int .i64 (25 - ((g + 1 : Nat) : Int))))] [(1000000, [.c (.str []), .c (.int .i64 k), .c (.int .i64 0)])] [] [1000000] rfl rfl fun β => ?_; have hf := Try.func108
      repeat' (first | refine st ?_ | (refine AK.condS rfl (fun h => ?_) (fun h => ?_) <;> first | (cases h; done) | rw [h] | skip) | refine AK.retE Try.hX hf rfl rfl rfl rfl ?_ (by with_reducible rfl) | refine AK.retE Try.hX hf rfl rfl rfl rfl ?_ ?_ | refine AK.endE Try.hX hf rfl rfl rfl rfl ?_ (by with_reducible rfl) | refine AK.endE Try.hX hf rfl rfl rfl rfl ?_ ?_ | refine AOps.calle kn rfl rfl (h1) rfl ⟨_, _, _, rfl, rfl, ⟨_, _, rfl, rfl, ⟨_, _, rfl, rfl, ⟨_, _, rfl, rfl, rfl⟩⟩⟩, rfl⟩ rfl rfl rfl rfl rfl rfl rfl rfl rfl rfl rfl rfl rfl rfl ?_ | refine AOps.calle kn rfl rfl (h2) rfl ⟨_, _, _, rfl, rfl, ⟨_, _, rfl, rfl, ⟨_, _, rfl, rfl, ⟨_, _, rfl, rfl, rfl⟩⟩⟩, rfl⟩ rfl rfl rfl rfl rfl rfl rfl rfl rfl rfl rfl rfl rfl rfl ?_ | (refine uA rfl ?_ ?_ <;> (try (show (_ : Nat) * _ ≤ _; dsimp only))) | ((first | refine AOps.splitT rfl rfl rfl asm (fun h => ?_) | refine AOps.splitF rfl rfl rfl asm (fun h => ?_) | refine AOps.split rfl rfl rfl (fun h => ?_) (fun h => ?_)) <;> (fail_if_success (cases h; done)) <;> rw [h]))
      all_goals first | rfl | (rw [e1])
    | cons c s =>
      rw [rdX_cons _ _ _ _ hmany]
      have hbyte := byte_cons c s (IntKind.i64.wrap (k + 1)) 0
      have hcb := c.toNat_lt
      generalize hq : c.toNat = q at hbyte hcb
      by_cases q0 : q = 0
      · subst q0
        rw [body0]
        have hnum := number_calls s (IntKind.i64.wrap (k + 1))
        refine ECalls.ofL Try.func108 rfl (fun args w => Try.call108 args w) (Nat.le_of_ble_eq_true rfl) [(0, .ptr 1000000 0), (1, .c (.int .i64 (25 - ((g + 1 : Nat) : Int))))] [(1000000, [.c (.str (c :: s)), .c (.int .i64 k), .c (.int .i64 0)])] [] [1000000] rfl rfl fun β => ?_; have hf := Try.func108
        repeat' (first | refine st ?_ | (refine AK.condS rfl (fun h => ?_) (fun h => ?_) <;> first | (cases h; done) | rw [h] | skip) | refine AK.retE Try.hX hf rfl rfl rfl rfl ?_ (by with_reducible rfl) | refine AK.retE Try.hX hf rfl rfl rfl rfl ?_ ?_ | refine AK.endE Try.hX hf rfl rfl rfl rfl ?_ (by with_reducible rfl) | refine AK.endE Try.hX hf rfl rfl rfl rfl ?_ ?_ | refine AOps.calle kn rfl rfl (hbyte) rfl ⟨_, _, _, rfl, rfl, ⟨_, _, rfl, rfl, ⟨_, _, rfl, rfl, ⟨_, _, rfl, rfl, rfl⟩⟩⟩, rfl⟩ rfl rfl rfl rfl rfl rfl rfl rfl rfl rfl rfl rfl rfl rfl ?_ | refine AOps.calle kn rfl rfl (hnum) rfl ⟨_, _, _, rfl, rfl, ⟨_, _, rfl, rfl, ⟨_, _, rfl, rfl, ⟨_, _, rfl, rfl, rfl⟩⟩⟩, rfl⟩ rfl rfl rfl rfl rfl rfl rfl rfl rfl rfl rfl rfl rfl rfl ?_ | (refine uA rfl ?_ ?_ <;> (try (show (_ : Nat) * _ ≤ _; dsimp only))) | ((first | refine AOps.splitT rfl rfl rfl asm (fun h => ?_) | refine AOps.splitF rfl rfl rfl asm (fun h => ?_) | refine AOps.split rfl rfl rfl (fun h => ?_) (fun h => ?_)) <;> (fail_if_success (cases h; done)) <;> rw [h]))
        all_goals first | rfl | (rw [e1])
      by_cases q1 : q = 1
      · subst q1
        have hnum := number_calls s (IntKind.i64.wrap (k + 1))
        by_cases hbad : numVal s < 0 ∨ numVal s > 200 ∨ numVal s > (numRest s).length
        · rw [body1_bad _ _ _ hbad]
          have h4 : ECalls Try.prog Try.X 109 [.box [.c (.str (numRest s)), .c (.int .i64 (IntKind.i64.wrap (k + 1))), .c (.int .i64 (numErr s))], .v (.c (.int .i64 1))] [] [(0, [.c (.str []), .c (.int .i64 (IntKind.i64.wrap (k + 1))), .c (.int .i64 1)])] := by
            rcases numErr_cases s with hne | ⟨hne, hnr⟩
            · rw [hne]; exact bad_zero _ _ _
            · rw [hne, hnr]; exact bad_set _ _ _ _ (by omega)
          rcases bool_of (numVal s < 0) with ⟨d1, b1⟩ | ⟨d1, b1⟩ <;> rcases bool_of (numVal s > 200) with ⟨d2, b2⟩ | ⟨d2, b2⟩ <;> rcases bool_of (numVal s > (numRest s).length) with ⟨d3, b3⟩ | ⟨d3, b3⟩
          all_goals first | (exfalso; omega) | skip
          all_goals
            refine ECalls.ofL Try.func108 rfl (fun args w => Try.call108 args w) (Nat.le_of_ble_eq_true rfl) [(0, .ptr 1000000 0), (1, .c (.int .i64 (25 - ((g + 1 : Nat) : Int))))] [(1000000, [.c (.str (c :: s)), .c (.int .i64 k), .c (.int .i64 0)])] [] [1000000] rfl rfl fun β => ?_; have hf := Try.func108
            repeat' (first | refine st ?_ | (refine AK.condS rfl (fun h => ?_) (fun h => ?_) <;> first | (cases h; done) | rw [h] | skip) | refine AK.retE Try.hX hf rfl rfl rfl rfl ?_ (by with_reducible rfl) | refine AK.retE Try.hX hf rfl rfl rfl rfl ?_ ?_ | refine AK.endE Try.hX hf rfl rfl rfl rfl ?_ (by with_reducible rfl) | refine AK.endE Try.hX hf rfl rfl rfl rfl ?_ ?_ | refine AOps.calle kn rfl rfl (hbyte) rfl ⟨_, _, _, rfl, rfl, ⟨_, _, rfl, rfl, ⟨_, _, rfl, rfl, ⟨_, _, rfl, rfl, rfl⟩⟩⟩, rfl⟩ rfl rfl rfl rfl rfl rfl rfl rfl rfl rfl rfl rfl rfl rfl ?_ | refine AOps.calle kn rfl rfl (hnum) rfl ⟨_, _, _, rfl, rfl, ⟨_, _, rfl, rfl, ⟨_, _, rfl, rfl, ⟨_, _, rfl, rfl, rfl⟩⟩⟩, rfl⟩ rfl rfl rfl rfl rfl rfl rfl rfl rfl rfl rfl rfl rfl rfl ?_ | refine AOps.calle kn rfl rfl (h4) rfl ⟨_, _, _, rfl, rfl, ⟨_, _, rfl, rfl, ⟨_, _, rfl, rfl, ⟨_, _, rfl, rfl, rfl⟩⟩⟩, ⟨_, _, rfl, rfl, rfl⟩⟩ rfl rfl rfl rfl rfl rfl rfl rfl rfl rfl rfl rfl rfl rfl ?_ | (refine uA rfl ?_ ?_ <;> (try (show (_ : Nat) * _ ≤ _; dsimp only))) | ((first | refine AOps.splitT rfl rfl rfl asm (fun h => ?_) | refine AOps.splitF rfl rfl rfl asm (fun h => ?_) | refine AOps.split rfl rfl rfl (fun h => ?_) (fun h => ?_)) <;> (fail_if_success (cases h; done)) <;> rw [h]))
            all_goals first | rfl | (rw [e1])
        · rw [body1_good _ _ _ hbad]
          have d1 : decide (numVal s < 0) = false := decide_eq_false (by omega)
          have d2 : decide (numVal s > 200) = false := decide_eq_false (by omega)
          have d3 : decide (numVal s > (numRest s).length) = false := decide_eq_false (by omega)
          obtain ⟨v, hv⟩ : ∃ v : Nat, numVal s = v := ⟨(numVal s).toNat, by omega⟩
          have hvl : v ≤ (numRest s).length := by omega
          rw [hv] at hnum d1 d2 d3 ⊢
          have d12 : (bif decide ((v : Int) < 0) then true else decide ((v : Int) > 200)) = false := by rw [d1, d2]; rfl
          refine ECalls.ofL Try.func108 rfl (fun args w => Try.call108 args w) (Nat.le_of_ble_eq_true rfl) [(0, .ptr 1000000 0), (1, .c (.int .i64 (25 - ((g + 1 : Nat) : Int))))] [(1000000, [.c (.str (c :: s)), .c (.int .i64 k), .c (.int .i64 0)])] [] [1000000] rfl rfl fun β => ?_; have hf := Try.func108
          repeat' (first | refine st ?_ | (refine AK.condS rfl (fun h => ?_) (fun h => ?_) <;> first | (cases h; done) | rw [h] | skip) | refine AK.retE Try.hX hf rfl rfl rfl rfl ?_ (by with_reducible rfl) | refine AK.retE Try.hX hf rfl rfl rfl rfl ?_ ?_ | refine AK.endE Try.hX hf rfl rfl rfl rfl ?_ (by with_reducible rfl) | refine AK.endE Try.hX hf rfl rfl rfl rfl ?_ ?_ | refine AOps.calle kn rfl rfl (hbyte) rfl ⟨_, _, _, rfl, rfl, ⟨_, _, rfl, rfl, ⟨_, _, rfl, rfl, ⟨_, _, rfl, rfl, rfl⟩⟩⟩, rfl⟩ rfl rfl rfl rfl rfl rfl rfl rfl rfl rfl rfl rfl rfl rfl ?_ | refine AOps.calle kn rfl rfl (hnum) rfl ⟨_, _, _, rfl, rfl, ⟨_, _, rfl, rfl, ⟨_, _, rfl, rfl, ⟨_, _, rfl, rfl, rfl⟩⟩⟩, rfl⟩ rfl rfl rfl rfl rfl rfl rfl rfl rfl rfl rfl rfl rfl rfl ?_ | refine AOps.sliceStr Try.hX kn rfl rfl rfl rfl rfl rfl (l := none) (h := some v) rfl rfl hvl (Nat.zero_le _) ?_ | refine AOps.sliceStr Try.hX kn rfl rfl rfl rfl rfl rfl (l := some v) (h := none) rfl rfl (Nat.le_refl _) hvl ?_ | (refine uA rfl ?_ ?_ <;> (try (show (_ : Nat) * _ ≤ _; dsimp only))) | ((first | refine AOps.splitT rfl rfl rfl asm (fun h => ?_) | refine AOps.splitF rfl rfl rfl asm (fun h => ?_) | refine AOps.split rfl rfl rfl (fun h => ?_) (fun h => ?_)) <;> (fail_if_success (cases h; done)) <;> rw [h]))
          all_goals first | rfl | (rw [e1]; done) | (rw [e1]; simp; done) | (simp [e1]; done)
      by_cases q2 : q = 2
      · subst q2
        cases s with
        | nil =>
          rw [body2_nil]
          have h1 := byte_err (IntKind.i64.wrap (k + 1)) 1 (by omega)
          have h2 := byte_nil (IntKind.i64.wrap (k + 1))
          have hp0 : primP 0 = false := by decide +kernel
          have hprim := prim_calls 0
          rw [hp0] at hprim
          have h3 := number_err (IntKind.i64.wrap (k + 1)) 1 (by omega)
          have h4 := bad_set [] (IntKind.i64.wrap (k + 1)) 1 1 (by omega)
          refine ECalls.ofL Try.func108 rfl (fun args w => Try.call108 args w) (Nat.le_of_ble_eq_true rfl) [(0, .ptr 1000000 0), (1, .c (.int .i64 (25 - ((g + 1 : Nat) : Int))))] [(1000000, [.c (.str (c :: [])), .c (.int .i64 k), .c (.int .i64 0)])] [] [1000000] rfl rfl fun β => ?_; have hf := Try.func108
          repeat' (first | refine st ?_ | (refine AK.condS rfl (fun h => ?_) (fun h => ?_) <;> first | (cases h; done) | rw [h] | skip) | refine AK.retE Try.hX hf rfl rfl rfl rfl ?_ (by with_reducible rfl) | refine AK.retE Try.hX hf rfl rfl rfl rfl ?_ ?_ | refine AK.endE Try.hX hf rfl rfl rfl rfl ?_ (by with_reducible rfl) | refine AK.endE Try.hX hf rfl rfl rfl rfl ?_ ?_ | refine AOps.calle kn rfl rfl (hbyte) rfl ⟨_, _, _, rfl, rfl, ⟨_, _, rfl, rfl, ⟨_, _, rfl, rfl, ⟨_, _, rfl, rfl, rfl⟩⟩⟩, rfl⟩ rfl rfl rfl rfl rfl rfl rfl rfl rfl rfl rfl rfl rfl rfl ?_ | refine AOps.calle kn rfl rfl (h2) rfl ⟨_, _, _, rfl, rfl, ⟨_, _, rfl, rfl, ⟨_, _, rfl, rfl, ⟨_, _, rfl, rfl, rfl⟩⟩⟩, rfl⟩ rfl rfl rfl rfl rfl rfl rfl rfl rfl rfl rfl rfl rfl rfl ?_ | refine uC rfl hprim ?_ | refine AOps.calle kn rfl rfl (h3) rfl ⟨_, _, _, rfl, rfl, ⟨_, _, rfl, rfl, ⟨_, _, rfl, rfl, ⟨_, _, rfl, rfl, rfl⟩⟩⟩, rfl⟩ rfl rfl rfl rfl rfl rfl rfl rfl rfl rfl rfl rfl rfl rfl ?_ | refine AOps.calle kn rfl rfl (h4) rfl ⟨_, _, _, rfl, rfl, ⟨_, _, rfl, rfl, ⟨_, _, rfl, rfl, ⟨_, _, rfl, rfl, rfl⟩⟩⟩, ⟨_, _, rfl, rfl, rfl⟩⟩ rfl rfl rfl rfl rfl rfl rfl rfl rfl rfl rfl rfl rfl rfl ?_ | (refine uA rfl ?_ ?_ <;> (try (show (_ : Nat) * _ ≤ _; dsimp only))) | ((first | refine AOps.splitT rfl rfl rfl asm (fun h => ?_) | refine AOps.splitF rfl rfl rfl asm (fun h => ?_) | refine AOps.split rfl rfl rfl (fun h => ?_) (fun h => ?_)) <;> (fail_if_success (cases h; done)) <;> rw [h]))
          refine AK.loopE (α := Unit) (fun _ => True) (fun _ => 0)
            (fun _ => [(7, .c (.int .i64 0)), (0, .ptr 1000000 0), (1, .c (.int .i64 (25 - ((g + 1 : Nat) : Int)))), (4, .ptr 4 0), (5, .ptr 5 0)])
            (fun _ => [(4, [.c (.int .i64 0), .c (.int .i64 0), .c (.int .i64 0), .c (.str []), .own .exact 5 []]), (5, [.c (.int .i64 ((2 : Nat) : Int)), .c (.int .i64 0), .c (.int .i64 0), .c (.str []), .own .exact 5 []]), (1000000, [.c (.str []), .c (.int .i64 (IntKind.i64.wrap (k + 1))), .c (.int .i64 1)])]) (fun _ => []) [4, 5, 1000000] ()
            trivial ⟨.inl rfl, .inl rfl, .inl rfl, .inl rfl, .inl rfl, trivial⟩ ⟨rfl, rfl, rfl, trivial⟩ trivial rfl rfl rfl ?_
          rintro _ _ ih
          clear ih
          repeat' (first | refine st ?_ | (refine AK.condS rfl (fun h => ?_) (fun h => ?_) <;> first | (cases h; done) | rw [h] | skip) | refine AK.retE Try.hX hf rfl rfl rfl rfl ?_ (by with_reducible rfl) | refine AK.retE Try.hX hf rfl rfl rfl rfl ?_ ?_ | refine AK.endE Try.hX hf rfl rfl rfl rfl ?_ (by with_reducible rfl) | refine AK.endE Try.hX hf rfl rfl rfl rfl ?_ ?_ | (refine uA rfl ?_ ?_ <;> (try (show (_ : Nat) * _ ≤ _; dsimp only))) | ((first | refine AOps.splitT rfl rfl rfl asm (fun h => ?_) | refine AOps.splitF rfl rfl rfl asm (fun h => ?_) | refine AOps.split rfl rfl rfl (fun h => ?_) (fun h => ?_)) <;> (fail_if_success (cases h; done)) <;> rw [h]))
          all_goals first | rfl | (rw [e1])
        | cons p s =>
          have hpb := byte_cons p s (IntKind.i64.wrap (k + 1)) 0
          have hpr := p.toNat_lt
          cases hp : primP p.toNat with
          | false =>
            rw [body2_bad _ _ _ _ hp]
            have hprim := prim_calls p.toNat
            rw [hp] at hprim
            have h3 := number_err (IntKind.i64.wrap (k + 1)) 1 (by omega)
            have h4 := bad_zero s (IntKind.i64.wrap (k + 1)) 1
            refine ECalls.ofL Try.func108 rfl (fun args w => Try.call108 args w) (Nat.le_of_ble_eq_true rfl) [(0, .ptr 1000000 0), (1, .c (.int .i64 (25 - ((g + 1 : Nat) : Int))))] [(1000000, [.c (.str (c :: p :: s)), .c (.int .i64 k), .c (.int .i64 0)])] [] [1000000] rfl rfl fun β => ?_; have hf := Try.func108
            repeat' (first | refine st ?_ | (refine AK.condS rfl (fun h => ?_) (fun h => ?_) <;> first | (cases h; done) | rw [h] | skip) | refine AK.retE Try.hX hf rfl rfl rfl rfl ?_ (by with_reducible rfl) | refine AK.retE Try.hX hf rfl rfl rfl rfl ?_ ?_ | refine AK.endE Try.hX hf rfl rfl rfl rfl ?_ (by with_reducible rfl) | refine AK.endE Try.hX hf rfl rfl rfl rfl ?_ ?_ | refine AOps.calle kn rfl rfl (hbyte) rfl ⟨_, _, _, rfl, rfl, ⟨_, _, rfl, rfl, ⟨_, _, rfl, rfl, ⟨_, _, rfl, rfl, rfl⟩⟩⟩, rfl⟩ rfl rfl rfl rfl rfl rfl rfl rfl rfl rfl rfl rfl rfl rfl ?_ | refine AOps.calle kn rfl rfl (hpb) rfl ⟨_, _, _, rfl, rfl, ⟨_, _, rfl, rfl, ⟨_, _, rfl, rfl, ⟨_, _, rfl, rfl, rfl⟩⟩⟩, rfl⟩ rfl rfl rfl rfl rfl rfl rfl rfl rfl rfl rfl rfl rfl rfl ?_ | refine uC rfl hprim ?_ | refine AOps.calle kn rfl rfl (h3) rfl ⟨_, _, _, rfl, rfl, ⟨_, _, rfl, rfl, ⟨_, _, rfl, rfl, ⟨_, _, rfl, rfl, rfl⟩⟩⟩, rfl⟩ rfl rfl rfl rfl rfl rfl rfl rfl rfl rfl rfl rfl rfl rfl ?_ | refine AOps.calle kn rfl rfl (h4) rfl ⟨_, _, _, rfl, rfl, ⟨_, _, rfl, rfl, ⟨_, _, rfl, rfl, ⟨_, _, rfl, rfl, rfl⟩⟩⟩, ⟨_, _, rfl, rfl, rfl⟩⟩ rfl rfl rfl rfl rfl rfl rfl rfl rfl rfl rfl rfl rfl rfl ?_ | (refine uA rfl ?_ ?_ <;> (try (show (_ : Nat) * _ ≤ _; dsimp only))) | ((first | refine AOps.splitT rfl rfl rfl asm (fun h => ?_) | refine AOps.splitF rfl rfl rfl asm (fun h => ?_) | refine AOps.split rfl rfl rfl (fun h => ?_) (fun h => ?_)) <;> (fail_if_success (cases h; done)) <;> rw [h]))
            refine AK.loopE (α := Unit) (fun _ => True) (fun _ => 0)
              (fun _ => [(7, .c (.int .i64 0)), (0, .ptr 1000000 0), (1, .c (.int .i64 (25 - ((g + 1 : Nat) : Int)))), (4, .ptr 4 0), (5, .ptr 5 0)])
              (fun _ => [(4, [.c (.int .i64 0), .c (.int .i64 0), .c (.int .i64 0), .c (.str []), .own .exact 5 []]), (5, [.c (.int .i64 ((2 : Nat) : Int)), .c (.int .i64 0), .c (.int .i64 ((p.toNat : Nat) : Int)), .c (.str []), .own .exact 5 []]), (1000000, [.c (.str []), .c (.int .i64 (IntKind.i64.wrap (k + 1))), .c (.int .i64 1)])]) (fun _ => []) [4, 5, 1000000] ()
              trivial ⟨.inl rfl, .inl rfl, .inl rfl, .inl rfl, .inl rfl, trivial⟩ ⟨rfl, rfl, rfl, trivial⟩ trivial rfl rfl rfl ?_
            rintro _ _ ih
            clear ih
            repeat' (first | refine st ?_ | (refine AK.condS rfl (fun h => ?_) (fun h => ?_) <;> first | (cases h; done) | rw [h] | skip) | refine AK.retE Try.hX hf rfl rfl rfl rfl ?_ (by with_reducible rfl) | refine AK.retE Try.hX hf rfl rfl rfl rfl ?_ ?_ | refine AK.endE Try.hX hf rfl rfl rfl rfl ?_ (by with_reducible rfl) | refine AK.endE Try.hX hf rfl rfl rfl rfl ?_ ?_ | (refine uA rfl ?_ ?_ <;> (try (show (_ : Nat) * _ ≤ _; dsimp only))) | ((first | refine AOps.splitT rfl rfl rfl asm (fun h => ?_) | refine AOps.splitF rfl rfl rfl asm (fun h => ?_) | refine AOps.split rfl rfl rfl (fun h => ?_) (fun h => ?_)) <;> (fail_if_success (cases h; done)) <;> rw [h]))
            all_goals first | rfl | (rw [e1])
          | true =>
            rw [body2_good _ _ _ _ hp]
            have hprim := prim_calls p.toNat
            rw [hp] at hprim
            -- the arguments of a node
            have hnum := number_calls (s) (IntKind.i64.wrap (k + 1))
            rcases numErr_cases (s) with hne | ⟨hne, hnr⟩
            · have hvb := numVal_bound hne
              unfold maxI at hvb
              rw [hne] at hnum
              by_cases hv0 : numVal (s) < 0
              · rw [args_no _ _ _ _ _ (.inr hv0)]
                have c5 : decide (numVal (s) < 0) = true := decide_eq_true hv0
                have c6 : decide (numVal (s) > 0) = false := decide_eq_false (by omega)
                have h4 := bad_zero (numRest (s)) (IntKind.i64.wrap (k + 1)) 1
                refine ECalls.ofL Try.func108 rfl (fun args w => Try.call108 args w) (Nat.le_of_ble_eq_true rfl) [(0, .ptr 1000000 0), (1, .c (.int .i64 (25 - ((g + 1 : Nat) : Int))))] [(1000000, [.c (.str (c :: p :: s)), .c (.int .i64 k), .c (.int .i64 0)])] [] [1000000] rfl rfl fun β => ?_; have hf := Try.func108
                repeat' (first | refine st ?_ | (refine AK.condS rfl (fun h => ?_) (fun h => ?_) <;> first | (cases h; done) | rw [h] | skip) | refine AK.retE Try.hX hf rfl rfl rfl rfl ?_ (by with_reducible rfl) | refine AK.retE Try.hX hf rfl rfl rfl rfl ?_ ?_ | refine AK.endE Try.hX hf rfl rfl rfl rfl ?_ (by with_reducible rfl) | refine AK.endE Try.hX hf rfl rfl rfl rfl ?_ ?_ | refine AOps.calle kn rfl rfl (hbyte) rfl ⟨_, _, _, rfl, rfl, ⟨_, _, rfl, rfl, ⟨_, _, rfl, rfl, ⟨_, _, rfl, rfl, rfl⟩⟩⟩, rfl⟩ rfl rfl rfl rfl rfl rfl rfl rfl rfl rfl rfl rfl rfl rfl ?_ | refine AOps.calle kn rfl rfl (hpb) rfl ⟨_, _, _, rfl, rfl, ⟨_, _, rfl, rfl, ⟨_, _, rfl, rfl, ⟨_, _, rfl, rfl, rfl⟩⟩⟩, rfl⟩ rfl rfl rfl rfl rfl rfl rfl rfl rfl rfl rfl rfl rfl rfl ?_ | refine uC rfl hprim ?_ | refine AOps.calle kn rfl rfl (hnum) rfl ⟨_, _, _, rfl, rfl, ⟨_, _, rfl, rfl, ⟨_, _, rfl, rfl, ⟨_, _, rfl, rfl, rfl⟩⟩⟩, rfl⟩ rfl rfl rfl rfl rfl rfl rfl rfl rfl rfl rfl rfl rfl rfl ?_ | refine AOps.calle kn rfl rfl (h4) rfl ⟨_, _, _, rfl, rfl, ⟨_, _, rfl, rfl, ⟨_, _, rfl, rfl, ⟨_, _, rfl, rfl, rfl⟩⟩⟩, ⟨_, _, rfl, rfl, rfl⟩⟩ rfl rfl rfl rfl rfl rfl rfl rfl rfl rfl rfl rfl rfl rfl ?_ | (refine uA rfl ?_ ?_ <;> (try (show (_ : Nat) * _ ≤ _; dsimp only))) | ((first | refine AOps.splitT rfl rfl rfl asm (fun h => ?_) | refine AOps.splitF rfl rfl rfl asm (fun h => ?_) | refine AOps.split rfl rfl rfl (fun h => ?_) (fun h => ?_)) <;> (fail_if_success (cases h; done)) <;> rw [h]))
                refine AK.loopE (α := Unit) (fun _ => True) (fun _ => 0)
                  (fun _ => [(7, .c (.int .i64 (numVal (s)))), (0, .ptr 1000000 0), (1, .c (.int .i64 (25 - ((g + 1 : Nat) : Int)))), (4, .ptr 4 0), (5, .ptr 5 0)])
                  (fun _ => [(4, [.c (.int .i64 0), .c (.int .i64 0), .c (.int .i64 0), .c (.str []), .own .exact 5 []]), (5, [.c (.int .i64 ((2 : Nat) : Int)), .c (.int .i64 0), .c (.int .i64 ((p.toNat : Nat) : Int)), .c (.str []), .own .exact 5 []]), (1000000, [.c (.str []), .c (.int .i64 (IntKind.i64.wrap (k + 1))), .c (.int .i64 1)])]) (fun _ => []) [4, 5, 1000000] ()
                  trivial ⟨.inl rfl, .inl rfl, .inl rfl, .inl rfl, .inl rfl, trivial⟩ ⟨rfl, rfl, rfl, trivial⟩ trivial rfl rfl rfl ?_
                rintro _ _ ih
                clear ih
                repeat' (first | refine st ?_ | (refine AK.condS rfl (fun h => ?_) (fun h => ?_) <;> first | (cases h; done) | rw [h] | skip) | refine AK.retE Try.hX hf rfl rfl rfl rfl ?_ (by with_reducible rfl) | refine AK.retE Try.hX hf rfl rfl rfl rfl ?_ ?_ | refine AK.endE Try.hX hf rfl rfl rfl rfl ?_ (by with_reducible rfl) | refine AK.endE Try.hX hf rfl rfl rfl rfl ?_ ?_ | (refine uA rfl ?_ ?_ <;> (try (show (_ : Nat) * _ ≤ _; dsimp only))) | ((first | refine AOps.splitT rfl rfl rfl asm (fun h => ?_) | refine AOps.splitF rfl rfl rfl asm (fun h => ?_) | refine AOps.split rfl rfl rfl (fun h => ?_) (fun h => ?_)) <;> (fail_if_success (cases h; done)) <;> rw [h]))
                all_goals first | rfl | (rw [e1])
              · rw [args_go _ _ _ _ _ (by rw [hne]; simp; omega)]
                have c5 : decide (numVal (s) < 0) = false := decide_eq_false hv0
                obtain ⟨V, hv⟩ : ∃ v : Nat, numVal (s) = v := ⟨(numVal (s)).toNat, by omega⟩
                rw [hv] at hnum c5
                have hvt : (numVal (s)).toNat = V := by omega
                rw [hvt]
                refine ECalls.ofL Try.func108 rfl (fun args w => Try.call108 args w) (Nat.le_of_ble_eq_true rfl) [(0, .ptr 1000000 0), (1, .c (.int .i64 (25 - ((g + 1 : Nat) : Int))))] [(1000000, [.c (.str (c :: p :: s)), .c (.int .i64 k), .c (.int .i64 0)])] [] [1000000] rfl rfl fun β => ?_; have hf := Try.func108
                repeat' (first | refine st ?_ | (refine AK.condS rfl (fun h => ?_) (fun h => ?_) <;> first | (cases h; done) | rw [h] | skip) | refine AK.retE Try.hX hf rfl rfl rfl rfl ?_ (by with_reducible rfl) | refine AK.retE Try.hX hf rfl rfl rfl rfl ?_ ?_ | refine AK.endE Try.hX hf rfl rfl rfl rfl ?_ (by with_reducible rfl) | refine AK.endE Try.hX hf rfl rfl rfl rfl ?_ ?_ | refine AOps.calle kn rfl rfl (hbyte) rfl ⟨_, _, _, rfl, rfl, ⟨_, _, rfl, rfl, ⟨_, _, rfl, rfl, ⟨_, _, rfl, rfl, rfl⟩⟩⟩, rfl⟩ rfl rfl rfl rfl rfl rfl rfl rfl rfl rfl rfl rfl rfl rfl ?_ | refine AOps.calle kn rfl rfl (hpb) rfl ⟨_, _, _, rfl, rfl, ⟨_, _, rfl, rfl, ⟨_, _, rfl, rfl, ⟨_, _, rfl, rfl, rfl⟩⟩⟩, rfl⟩ rfl rfl rfl rfl rfl rfl rfl rfl rfl rfl rfl rfl rfl rfl ?_ | refine uC rfl hprim ?_ | refine AOps.calle kn rfl rfl (hnum) rfl ⟨_, _, _, rfl, rfl, ⟨_, _, rfl, rfl, ⟨_, _, rfl, rfl, ⟨_, _, rfl, rfl, rfl⟩⟩⟩, rfl⟩ rfl rfl rfl rfl rfl rfl rfl rfl rfl rfl rfl rfl rfl rfl ?_ | (refine uA rfl ?_ ?_ <;> (try (show (_ : Nat) * _ ≤ _; dsimp only))) | ((first | refine AOps.splitT rfl rfl rfl asm (fun h => ?_) | refine AOps.splitF rfl rfl rfl asm (fun h => ?_) | refine AOps.split rfl rfl rfl (fun h => ?_) (fun h => ?_)) <;> (fail_if_success (cases h; done)) <;> rw [h]))
                refine AK.ren [(4, 4), (5, 5), (1000000, 1000000)] [(5000, (0, none))] (env' := [(7, .c (.int .i64 (V : Nat))), (0, .ptr 1000000 0), (1, .c (.int .i64 (25 - ((g + 1 : Nat) : Int)))), (4, .ptr 4 0), (5, .ptr 5 0)])
                  (bs' := [(4, [.c (.int .i64 0), .c (.int .i64 0), .c (.int .i64 0), .c (.str []), .own .exact 5 []]), (5, [.c (.int .i64 ((2 : Nat) : Int)), .c (.int .i64 0), .c (.int .i64 ((p.toNat : Nat) : Int)), .c (.str []), .own (.tok 5000 0) 5 []]), (1000000, [.c (.str (numRest (s))), .c (.int .i64 (k + 1)), .c (.int .i64 0)])]) (ts' := [(5000, 0)]) (us' := [4, 5, 1000000, 5000])
                  ⟨⟨_, rfl, .inl rfl⟩, ⟨_, rfl, ⟨_, rfl, rfl⟩⟩, ⟨_, rfl, .inl rfl⟩, ⟨_, rfl, ⟨_, rfl, rfl⟩⟩, ⟨_, rfl, ⟨_, rfl, rfl⟩⟩, trivial⟩ ⟨⟨_, _, rfl, rfl, ⟨_, _, rfl, .inl rfl, ⟨_, _, rfl, .inl rfl, ⟨_, _, rfl, .inl rfl, ⟨_, _, rfl, .inl rfl, ⟨_, _, rfl, rfl, rfl⟩⟩⟩⟩⟩⟩, ⟨_, _, rfl, rfl, ⟨_, _, rfl, .inl rfl, ⟨_, _, rfl, .inl rfl, ⟨_, _, rfl, .inl rfl, ⟨_, _, rfl, .inl rfl, ⟨_, _, rfl, ⟨_, rfl, .inl ⟨rfl, _, rfl, .inr rfl⟩⟩, rfl⟩⟩⟩⟩⟩⟩, ⟨_, _, rfl, rfl, ⟨_, _, rfl, .inl rfl, ⟨_, _, rfl, .inl (congrArg (fun z => AV.c (.int .i64 z)) e1), ⟨_, _, rfl, .inl rfl, rfl⟩⟩⟩⟩, trivial⟩ rfl ?_
                refine AK.loopE (α := Nat × List Nd × List UInt8 × Int × Int) (fun z => rdRowX (rdX g) V (numRest (s)) (k + 1) 0 = (z.2.1 ++ (rdRowX (rdX g) z.1 z.2.2.1 z.2.2.2.1 z.2.2.2.2).1, (rdRowX (rdX g) z.1 z.2.2.1 z.2.2.2.1 z.2.2.2.2).2) ∧ 0 ≤ z.2.2.2.1 ∧ z.2.2.2.1 ≤ 301 ∧ (z.2.2.2.2 = 0 → z.2.2.2.1 ≤ 300) ∧ (z.2.1.length : Int) ≤ z.2.2.2.1 ∧ z.1 ≤ 1152921504606846976) (fun z => z.1)
                  (fun z => [(7, .c (.int .i64 (z.1 : Nat))), (0, .ptr 1000000 0), (1, .c (.int .i64 (25 - ((g + 1 : Nat) : Int)))), (4, .ptr 4 0), (5, .ptr 5 0)])
                  (fun z => [(4, [.c (.int .i64 0), .c (.int .i64 0), .c (.int .i64 0), .c (.str []), .own .exact 5 []]), (5, [.c (.int .i64 ((2 : Nat) : Int)), .c (.int .i64 0), .c (.int .i64 ((p.toNat : Nat) : Int)), .c (.str []), .own (.tok 5000 0) 5 (encNds z.2.1)]), (1000000, [.c (.str z.2.2.1), .c (.int .i64 z.2.2.2.1), .c (.int .i64 z.2.2.2.2)])]) (fun _ => [(5000, 0)]) [4, 5, 1000000, 5000] (V, [], numRest (s), k + 1, 0)
                  ⟨by simp, by show 0 ≤ k + 1; omega, by show k + 1 ≤ 301; omega, fun _ => by show k + 1 ≤ 300; omega, by show (0 : Int) ≤ k + 1; omega, by show V ≤ _; omega⟩ ⟨.inl rfl, .inl rfl, .inl rfl, .inl rfl, .inl rfl, trivial⟩ ⟨rfl, rfl, rfl, trivial⟩ ⟨rfl, trivial⟩ rfl rfl rfl ?_
                rintro ⟨v, acc, s', k', e'⟩ ⟨hinv, hk0', hk', hke, hal, hvb'⟩ ih
                simp only at hinv hk0' hk' hke hal hvb'
                by_cases he : e' = 0
                · subst he
                  have hk3 := hke rfl
                  cases v with
                  | zero =>
                    rw [rowX_zero, List.append_nil] at hinv
                    rw [hinv]
                    clear ih
                    repeat' (first | refine st ?_ | (refine AK.condS rfl (fun h => ?_) (fun h => ?_) <;> first | (cases h; done) | rw [h] | skip) | refine AK.retE Try.hX hf rfl rfl rfl rfl ?_ (by with_reducible rfl) | refine AK.retE Try.hX hf rfl rfl rfl rfl ?_ ?_ | refine AK.endE Try.hX hf rfl rfl rfl rfl ?_ (by with_reducible rfl) | refine AK.endE Try.hX hf rfl rfl rfl rfl ?_ ?_ | (refine uA rfl ?_ ?_ <;> (try (show (_ : Nat) * _ ≤ _; dsimp only))) | ((first | refine AOps.splitT rfl rfl rfl asm (fun h => ?_) | refine AOps.splitF rfl rfl rfl asm (fun h => ?_) | refine AOps.split rfl rfl rfl (fun h => ?_) (fun h => ?_)) <;> (fail_if_success (cases h; done)) <;> rw [h]))
                    all_goals rfl
                  | succ v =>
                    have c7 : decide (((v + 1 : Nat) : Int) > 0) = true := decide_eq_true (by omega)
                    have hq := hin s' k' hk0' hk3
                    have hle := rdX_le g s' k' hk0' hk3
                    rw [rowX_more] at hinv
                    rcases hx : rdX g s' k' with ⟨⟨y1, y2, y3, y4, y5⟩, s2, k2, e2⟩
                    rw [hx] at hq hle hinv
                    simp only at hq hle hinv
                    have e7 : IntKind.i64.wrap (((v + 1 : Nat) : Int) - 1) = (v : Int) := by rw [w64 (by omega) (by omega)]; omega
                    repeat' (first | refine st ?_ | (refine AK.condS rfl (fun h => ?_) (fun h => ?_) <;> first | (cases h; done) | rw [h] | skip) | refine AK.retE Try.hX hf rfl rfl rfl rfl ?_ (by with_reducible rfl) | refine AK.retE Try.hX hf rfl rfl rfl rfl ?_ ?_ | refine AK.endE Try.hX hf rfl rfl rfl rfl ?_ (by with_reducible rfl) | refine AK.endE Try.hX hf rfl rfl rfl rfl ?_ ?_ | refine AOps.calle kn rfl rfl (hq) rfl ⟨_, _, _, rfl, rfl, ⟨_, _, rfl, rfl, ⟨_, _, rfl, rfl, ⟨_, _, rfl, rfl, rfl⟩⟩⟩, ⟨_, _, rfl, rfl, rfl⟩⟩ rfl rfl rfl rfl rfl rfl rfl rfl rfl rfl rfl rfl rfl rfl ?_ | (refine uA rfl ?_ ?_ <;> (try (show (_ : Nat) * _ ≤ _; dsimp only))) | ((first | refine AOps.splitT rfl rfl rfl asm (fun h => ?_) | refine AOps.splitF rfl rfl rfl asm (fun h => ?_) | refine AOps.split rfl rfl rfl (fun h => ?_) (fun h => ?_)) <;> (fail_if_success (cases h; done)) <;> rw [h]))
                    · have h1 := encNds_length acc
                      simp only [List.length_cons, List.length_nil]
                      omega
                    · have hap : encNds acc ++ [encNd (.mk y1 y2 y3 y4 y5)] = encNds (acc ++ [.mk y1 y2 y3 y4 y5]) := (encNds_append acc [_]).symm
                      refine AK.ren [(4, 4), (5, 5), (1000000, 1000000)] [(5000, (0, some 5000))] (env' := [(7, .c (.int .i64 (v : Nat))), (0, .ptr 1000000 0), (1, .c (.int .i64 (25 - ((g + 1 : Nat) : Int)))), (4, .ptr 4 0), (5, .ptr 5 0)])
                        (bs' := [(4, [.c (.int .i64 0), .c (.int .i64 0), .c (.int .i64 0), .c (.str []), .own .exact 5 []]), (5, [.c (.int .i64 ((2 : Nat) : Int)), .c (.int .i64 0), .c (.int .i64 ((p.toNat : Nat) : Int)), .c (.str []), .own (.tok 5000 0) 5 (encNds (acc ++ [.mk y1 y2 y3 y4 y5]))]), (1000000, [.c (.str s2), .c (.int .i64 k2), .c (.int .i64 e2)])]) (ts' := [(5000, 0)]) (us' := [4, 5, 1000000, 5000])
                        ⟨⟨_, rfl, .inl (congrArg (fun z => AV.c (.int .i64 z)) e7)⟩, ⟨_, rfl, ⟨_, rfl, rfl⟩⟩, ⟨_, rfl, .inl rfl⟩, ⟨_, rfl, ⟨_, rfl, rfl⟩⟩, ⟨_, rfl, ⟨_, rfl, rfl⟩⟩, trivial⟩ ⟨⟨_, _, rfl, rfl, ⟨_, _, rfl, .inl rfl, ⟨_, _, rfl, .inl rfl, ⟨_, _, rfl, .inl rfl, ⟨_, _, rfl, .inl rfl, ⟨_, _, rfl, rfl, rfl⟩⟩⟩⟩⟩⟩, ⟨_, _, rfl, rfl, ⟨_, _, rfl, .inl rfl, ⟨_, _, rfl, .inl rfl, ⟨_, _, rfl, .inl rfl, ⟨_, _, rfl, .inl rfl, ⟨_, _, rfl, ⟨_, rfl, .inr ⟨_, _, rfl, rfl, congrArg (AV.own (.tok 5000 1) 5) hap⟩⟩, rfl⟩⟩⟩⟩⟩⟩, ⟨_, _, rfl, rfl, ⟨_, _, rfl, .inl rfl, ⟨_, _, rfl, .inl rfl, ⟨_, _, rfl, .inl rfl, rfl⟩⟩⟩⟩, trivial⟩ rfl ?_
                      refine ih (v, acc ++ [.mk y1 y2 y3 y4 y5], s2, k2, e2) ⟨?_, by show 0 ≤ k2; omega, by show k2 ≤ 301; omega, hle.2.2, by show ((acc ++ [_]).length : Int) ≤ k2; simp only [List.length_append, List.length_cons, List.length_nil]; omega, by show v ≤ _; omega⟩ (by show v < v + 1; omega)
                      show rdRowX (rdX g) V (numRest (s)) (k + 1) 0 = _
                      rw [hinv]; simp
                · rw [rowX_err _ _ _ _ _ he, List.append_nil] at hinv
                  rw [hinv]
                  have c8 : (e' == 0) = false := by simpa using he
                  clear ih
                  rcases bool_of ((v : Int) > 0) with ⟨c7, _⟩ | ⟨c7, _⟩
                  all_goals
                    repeat' (first | refine st ?_ | (refine AK.condS rfl (fun h => ?_) (fun h => ?_) <;> first | (cases h; done) | rw [h] | skip) | refine AK.retE Try.hX hf rfl rfl rfl rfl ?_ (by with_reducible rfl) | refine AK.retE Try.hX hf rfl rfl rfl rfl ?_ ?_ | refine AK.endE Try.hX hf rfl rfl rfl rfl ?_ (by with_reducible rfl) | refine AK.endE Try.hX hf rfl rfl rfl rfl ?_ ?_ | (refine uA rfl ?_ ?_ <;> (try (show (_ : Nat) * _ ≤ _; dsimp only))) | ((first | refine AOps.splitT rfl rfl rfl asm (fun h => ?_) | refine AOps.splitF rfl rfl rfl asm (fun h => ?_) | refine AOps.split rfl rfl rfl (fun h => ?_) (fun h => ?_)) <;> (fail_if_success (cases h; done)) <;> rw [h]))
                    all_goals rfl
            · rw [args_no _ _ _ _ _ (.inl (by rw [hne]; omega))]
              rw [hne, hnr] at hnum
              have h4 := bad_set [] (IntKind.i64.wrap (k + 1)) 1 1 (by omega)
              rcases bool_of (numVal (s) < 0) with ⟨c5, _⟩ | ⟨c5, _⟩ <;> rcases bool_of (numVal (s) > 0) with ⟨c6, _⟩ | ⟨c6, _⟩
              all_goals
                refine ECalls.ofL Try.func108 rfl (fun args w => Try.call108 args w) (Nat.le_of_ble_eq_true rfl) [(0, .ptr 1000000 0), (1, .c (.int .i64 (25 - ((g + 1 : Nat) : Int))))] [(1000000, [.c (.str (c :: p :: s)), .c (.int .i64 k), .c (.int .i64 0)])] [] [1000000] rfl rfl fun β => ?_; have hf := Try.func108
                repeat' (first | refine st ?_ | (refine AK.condS rfl (fun h => ?_) (fun h => ?_) <;> first | (cases h; done) | rw [h] | skip) | refine AK.retE Try.hX hf rfl rfl rfl rfl ?_ (by with_reducible rfl) | refine AK.retE Try.hX hf rfl rfl rfl rfl ?_ ?_ | refine AK.endE Try.hX hf rfl rfl rfl rfl ?_ (by with_reducible rfl) | refine AK.endE Try.hX hf rfl rfl rfl rfl ?_ ?_ | refine AOps.calle kn rfl rfl (hbyte) rfl ⟨_, _, _, rfl, rfl, ⟨_, _, rfl, rfl, ⟨_, _, rfl, rfl, ⟨_, _, rfl, rfl, rfl⟩⟩⟩, rfl⟩ rfl rfl rfl rfl rfl rfl rfl rfl rfl rfl rfl rfl rfl rfl ?_ | refine AOps.calle kn rfl rfl (hpb) rfl ⟨_, _, _, rfl, rfl, ⟨_, _, rfl, rfl, ⟨_, _, rfl, rfl, ⟨_, _, rfl, rfl, rfl⟩⟩⟩, rfl⟩ rfl rfl rfl rfl rfl rfl rfl rfl rfl rfl rfl rfl rfl rfl ?_ | refine uC rfl hprim ?_ | refine AOps.calle kn rfl rfl (hnum) rfl ⟨_, _, _, rfl, rfl, ⟨_, _, rfl, rfl, ⟨_, _, rfl, rfl, ⟨_, _, rfl, rfl, rfl⟩⟩⟩, rfl⟩ rfl rfl rfl rfl rfl rfl rfl rfl rfl rfl rfl rfl rfl rfl ?_ | refine AOps.calle kn rfl rfl (h4) rfl ⟨_, _, _, rfl, rfl, ⟨_, _, rfl, rfl, ⟨_, _, rfl, rfl, ⟨_, _, rfl, rfl, rfl⟩⟩⟩, ⟨_, _, rfl, rfl, rfl⟩⟩ rfl rfl rfl rfl rfl rfl rfl rfl rfl rfl rfl rfl rfl rfl ?_ | (refine uA rfl ?_ ?_ <;> (try (show (_ : Nat) * _ ≤ _; dsimp only))) | ((first | refine AOps.splitT rfl rfl rfl asm (fun h => ?_) | refine AOps.splitF rfl rfl rfl asm (fun h => ?_) | refine AOps.split rfl rfl rfl (fun h => ?_) (fun h => ?_)) <;> (fail_if_success (cases h; done)) <;> rw [h]))
                refine AK.loopE (α := Unit) (fun _ => True) (fun _ => 0)
                  (fun _ => [(7, .c (.int .i64 (numVal (s)))), (0, .ptr 1000000 0), (1, .c (.int .i64 (25 - ((g + 1 : Nat) : Int)))), (4, .ptr 4 0), (5, .ptr 5 0)])
                  (fun _ => [(4, [.c (.int .i64 0), .c (.int .i64 0), .c (.int .i64 0), .c (.str []), .own .exact 5 []]), (5, [.c (.int .i64 ((2 : Nat) : Int)), .c (.int .i64 0), .c (.int .i64 ((p.toNat : Nat) : Int)), .c (.str []), .own .exact 5 []]), (1000000, [.c (.str []), .c (.int .i64 (IntKind.i64.wrap (k + 1))), .c (.int .i64 1)])]) (fun _ => []) [4, 5, 1000000] ()
                  trivial ⟨.inl rfl, .inl rfl, .inl rfl, .inl rfl, .inl rfl, trivial⟩ ⟨rfl, rfl, rfl, trivial⟩ trivial rfl rfl rfl ?_
                rintro _ _ ih
                clear ih
                repeat' (first | refine st ?_ | (refine AK.condS rfl (fun h => ?_) (fun h => ?_) <;> first | (cases h; done) | rw [h] | skip) | refine AK.retE Try.hX hf rfl rfl rfl rfl ?_ (by with_reducible rfl) | refine AK.retE Try.hX hf rfl rfl rfl rfl ?_ ?_ | refine AK.endE Try.hX hf rfl rfl rfl rfl ?_ (by with_reducible rfl) | refine AK.endE Try.hX hf rfl rfl rfl rfl ?_ ?_ | (refine uA rfl ?_ ?_ <;> (try (show (_ : Nat) * _ ≤ _; dsimp only))) | ((first | refine AOps.splitT rfl rfl rfl asm (fun h => ?_) | refine AOps.splitF rfl rfl rfl asm (fun h => ?_) | refine AOps.split rfl rfl rfl (fun h => ?_) (fun h => ?_)) <;> (fail_if_success (cases h; done)) <;> rw [h]))
                all_goals first | rfl | (rw [e1])
      by_cases q3 : q = 3
      · subst q3
        rw [body3]
        -- the arguments of a node
        have hnum := number_calls (s) (IntKind.i64.wrap (k + 1))
        rcases numErr_cases (s) with hne | ⟨hne, hnr⟩
        · have hvb := numVal_bound hne
          unfold maxI at hvb
          rw [hne] at hnum
          by_cases hv0 : numVal (s) < 0
          · rw [args_no _ _ _ _ _ (.inr hv0)]
            have c5 : decide (numVal (s) < 0) = true := decide_eq_true hv0
            have c6 : decide (numVal (s) > 0) = false := decide_eq_false (by omega)
            have h4 := bad_zero (numRest (s)) (IntKind.i64.wrap (k + 1)) 1
            refine ECalls.ofL Try.func108 rfl (fun args w => Try.call108 args w) (Nat.le_of_ble_eq_true rfl) [(0, .ptr 1000000 0), (1, .c (.int .i64 (25 - ((g + 1 : Nat) : Int))))] [(1000000, [.c (.str (c :: s)), .c (.int .i64 k), .c (.int .i64 0)])] [] [1000000] rfl rfl fun β => ?_; have hf := Try.func108
            repeat' (first | refine st ?_ | (refine AK.condS rfl (fun h => ?_) (fun h => ?_) <;> first | (cases h; done) | rw [h] | skip) | refine AK.retE Try.hX hf rfl rfl rfl rfl ?_ (by with_reducible rfl) | refine AK.retE Try.hX hf rfl rfl rfl rfl ?_ ?_ | refine AK.endE Try.hX hf rfl rfl rfl rfl ?_ (by with_reducible rfl) | refine AK.endE Try.hX hf rfl rfl rfl rfl ?_ ?_ | refine AOps.calle kn rfl rfl (hbyte) rfl ⟨_, _, _, rfl, rfl, ⟨_, _, rfl, rfl, ⟨_, _, rfl, rfl, ⟨_, _, rfl, rfl, rfl⟩⟩⟩, rfl⟩ rfl rfl rfl rfl rfl rfl rfl rfl rfl rfl rfl rfl rfl rfl ?_ | refine AOps.calle kn rfl rfl (hnum) rfl ⟨_, _, _, rfl, rfl, ⟨_, _, rfl, rfl, ⟨_, _, rfl, rfl, ⟨_, _, rfl, rfl, rfl⟩⟩⟩, rfl⟩ rfl rfl rfl rfl rfl rfl rfl rfl rfl rfl rfl rfl rfl rfl ?_ | refine AOps.calle kn rfl rfl (h4) rfl ⟨_, _, _, rfl, rfl, ⟨_, _, rfl, rfl, ⟨_, _, rfl, rfl, ⟨_, _, rfl, rfl, rfl⟩⟩⟩, ⟨_, _, rfl, rfl, rfl⟩⟩ rfl rfl rfl rfl rfl rfl rfl rfl rfl rfl rfl rfl rfl rfl ?_ | (refine uA rfl ?_ ?_ <;> (try (show (_ : Nat) * _ ≤ _; dsimp only))) | ((first | refine AOps.splitT rfl rfl rfl asm (fun h => ?_) | refine AOps.splitF rfl rfl rfl asm (fun h => ?_) | refine AOps.split rfl rfl rfl (fun h => ?_) (fun h => ?_)) <;> (fail_if_success (cases h; done)) <;> rw [h]))
            refine AK.loopE (α := Unit) (fun _ => True) (fun _ => 0)
              (fun _ => [(7, .c (.int .i64 (numVal (s)))), (0, .ptr 1000000 0), (1, .c (.int .i64 (25 - ((g + 1 : Nat) : Int)))), (4, .ptr 4 0), (5, .ptr 5 0)])
              (fun _ => [(4, [.c (.int .i64 0), .c (.int .i64 0), .c (.int .i64 0), .c (.str []), .own .exact 5 []]), (5, [.c (.int .i64 ((3 : Nat) : Int)), .c (.int .i64 0), .c (.int .i64 0), .c (.str []), .own .exact 5 []]), (1000000, [.c (.str []), .c (.int .i64 (IntKind.i64.wrap (k + 1))), .c (.int .i64 1)])]) (fun _ => []) [4, 5, 1000000] ()
              trivial ⟨.inl rfl, .inl rfl, .inl rfl, .inl rfl, .inl rfl, trivial⟩ ⟨rfl, rfl, rfl, trivial⟩ trivial rfl rfl rfl ?_
            rintro _ _ ih
            clear ih
            repeat' (first | refine st ?_ | (refine AK.condS rfl (fun h => ?_) (fun h => ?_) <;> first | (cases h; done) | rw [h] | skip) | refine AK.retE Try.hX hf rfl rfl rfl rfl ?_ (by with_reducible rfl) | refine AK.retE Try.hX hf rfl rfl rfl rfl ?_ ?_ | refine AK.endE Try.hX hf rfl rfl rfl rfl ?_ (by with_reducible rfl) | refine AK.endE Try.hX hf rfl rfl rfl rfl ?_ ?_ | (refine uA rfl ?_ ?_ <;> (try (show (_ : Nat) * _ ≤ _; dsimp only))) | ((first | refine AOps.splitT rfl rfl rfl asm (fun h => ?_) | refine AOps.splitF rfl rfl rfl asm (fun h => ?_) | refine AOps.split rfl rfl rfl (fun h => ?_) (fun h => ?_)) <;> (fail_if_success (cases h; done)) <;> rw [h]))
            all_goals first | rfl | (rw [e1])
          · rw [args_go _ _ _ _ _ (by rw [hne]; simp; omega)]
            have c5 : decide (numVal (s) < 0) = false := decide_eq_false hv0
            obtain ⟨V, hv⟩ : ∃ v : Nat, numVal (s) = v := ⟨(numVal (s)).toNat, by omega⟩
            rw [hv] at hnum c5
            have hvt : (numVal (s)).toNat = V := by omega
            rw [hvt]
            refine ECalls.ofL Try.func108 rfl (fun args w => Try.call108 args w) (Nat.le_of_ble_eq_true rfl) [(0, .ptr 1000000 0), (1, .c (.int .i64 (25 - ((g + 1 : Nat) : Int))))] [(1000000, [.c (.str (c :: s)), .c (.int .i64 k), .c (.int .i64 0)])] [] [1000000] rfl rfl fun β => ?_; have hf := Try.func108
            repeat' (first | refine st ?_ | (refine AK.condS rfl (fun h => ?_) (fun h => ?_) <;> first | (cases h; done) | rw [h] | skip) | refine AK.retE Try.hX hf rfl rfl rfl rfl ?_ (by with_reducible rfl) | refine AK.retE Try.hX hf rfl rfl rfl rfl ?_ ?_ | refine AK.endE Try.hX hf rfl rfl rfl rfl ?_ (by with_reducible rfl) | refine AK.endE Try.hX hf rfl rfl rfl rfl ?_ ?_ | refine AOps.calle kn rfl rfl (hbyte) rfl ⟨_, _, _, rfl, rfl, ⟨_, _, rfl, rfl, ⟨_, _, rfl, rfl, ⟨_, _, rfl, rfl, rfl⟩⟩⟩, rfl⟩ rfl rfl rfl rfl rfl rfl rfl rfl rfl rfl rfl rfl rfl rfl ?_ | refine AOps.calle kn rfl rfl (hnum) rfl ⟨_, _, _, rfl, rfl, ⟨_, _, rfl, rfl, ⟨_, _, rfl, rfl, ⟨_, _, rfl, rfl, rfl⟩⟩⟩, rfl⟩ rfl rfl rfl rfl rfl rfl rfl rfl rfl rfl rfl rfl rfl rfl ?_ | (refine uA rfl ?_ ?_ <;> (try (show (_ : Nat) * _ ≤ _; dsimp only))) | ((first | refine AOps.splitT rfl rfl rfl asm (fun h => ?_) | refine AOps.splitF rfl rfl rfl asm (fun h => ?_) | refine AOps.split rfl rfl rfl (fun h => ?_) (fun h => ?_)) <;> (fail_if_success (cases h; done)) <;> rw [h]))
            refine AK.ren [(4, 4), (5, 5), (1000000, 1000000)] [(5000, (0, none))] (env' := [(7, .c (.int .i64 (V : Nat))), (0, .ptr 1000000 0), (1, .c (.int .i64 (25 - ((g + 1 : Nat) : Int)))), (4, .ptr 4 0), (5, .ptr 5 0)])
              (bs' := [(4, [.c (.int .i64 0), .c (.int .i64 0), .c (.int .i64 0), .c (.str []), .own .exact 5 []]), (5, [.c (.int .i64 ((3 : Nat) : Int)), .c (.int .i64 0), .c (.int .i64 0), .c (.str []), .own (.tok 5000 0) 5 []]), (1000000, [.c (.str (numRest (s))), .c (.int .i64 (k + 1)), .c (.int .i64 0)])]) (ts' := [(5000, 0)]) (us' := [4, 5, 1000000, 5000])
              ⟨⟨_, rfl, .inl rfl⟩, ⟨_, rfl, ⟨_, rfl, rfl⟩⟩, ⟨_, rfl, .inl rfl⟩, ⟨_, rfl, ⟨_, rfl, rfl⟩⟩, ⟨_, rfl, ⟨_, rfl, rfl⟩⟩, trivial⟩ ⟨⟨_, _, rfl, rfl, ⟨_, _, rfl, .inl rfl, ⟨_, _, rfl, .inl rfl, ⟨_, _, rfl, .inl rfl, ⟨_, _, rfl, .inl rfl, ⟨_, _, rfl, rfl, rfl⟩⟩⟩⟩⟩⟩, ⟨_, _, rfl, rfl, ⟨_, _, rfl, .inl rfl, ⟨_, _, rfl, .inl rfl, ⟨_, _, rfl, .inl rfl, ⟨_, _, rfl, .inl rfl, ⟨_, _, rfl, ⟨_, rfl, .inl ⟨rfl, _, rfl, .inr rfl⟩⟩, rfl⟩⟩⟩⟩⟩⟩, ⟨_, _, rfl, rfl, ⟨_, _, rfl, .inl rfl, ⟨_, _, rfl, .inl (congrArg (fun z => AV.c (.int .i64 z)) e1), ⟨_, _, rfl, .inl rfl, rfl⟩⟩⟩⟩, trivial⟩ rfl ?_
            refine AK.loopE (α := Nat × List Nd × List UInt8 × Int × Int) (fun z => rdRowX (rdX g) V (numRest (s)) (k + 1) 0 = (z.2.1 ++ (rdRowX (rdX g) z.1 z.2.2.1 z.2.2.2.1 z.2.2.2.2).1, (rdRowX (rdX g) z.1 z.2.2.1 z.2.2.2.1 z.2.2.2.2).2) ∧ 0 ≤ z.2.2.2.1 ∧ z.2.2.2.1 ≤ 301 ∧ (z.2.2.2.2 = 0 → z.2.2.2.1 ≤ 300) ∧ (z.2.1.length : Int) ≤ z.2.2.2.1 ∧ z.1 ≤ 1152921504606846976) (fun z => z.1)
              (fun z => [(7, .c (.int .i64 (z.1 : Nat))), (0, .ptr 1000000 0), (1, .c (.int .i64 (25 - ((g + 1 : Nat) : Int)))), (4, .ptr 4 0), (5, .ptr 5 0)])
              (fun z => [(4, [.c (.int .i64 0), .c (.int .i64 0), .c (.int .i64 0), .c (.str []), .own .exact 5 []]), (5, [.c (.int .i64 ((3 : Nat) : Int)), .c (.int .i64 0), .c (.int .i64 0), .c (.str []), .own (.tok 5000 0) 5 (encNds z.2.1)]), (1000000, [.c (.str z.2.2.1), .c (.int .i64 z.2.2.2.1), .c (.int .i64 z.2.2.2.2)])]) (fun _ => [(5000, 0)]) [4, 5, 1000000, 5000] (V, [], numRest (s), k + 1, 0)
              ⟨by simp, by show 0 ≤ k + 1; omega, by show k + 1 ≤ 301; omega, fun _ => by show k + 1 ≤ 300; omega, by show (0 : Int) ≤ k + 1; omega, by show V ≤ _; omega⟩ ⟨.inl rfl, .inl rfl, .inl rfl, .inl rfl, .inl rfl, trivial⟩ ⟨rfl, rfl, rfl, trivial⟩ ⟨rfl, trivial⟩ rfl rfl rfl ?_
            rintro ⟨v, acc, s', k', e'⟩ ⟨hinv, hk0', hk', hke, hal, hvb'⟩ ih
            simp only at hinv hk0' hk' hke hal hvb'
            by_cases he : e' = 0
            · subst he
              have hk3 := hke rfl
              cases v with
              | zero =>
                rw [rowX_zero, List.append_nil] at hinv
                rw [hinv]
                clear ih
                repeat' (first | refine st ?_ | (refine AK.condS rfl (fun h => ?_) (fun h => ?_) <;> first | (cases h; done) | rw [h] | skip) | refine AK.retE Try.hX hf rfl rfl rfl rfl ?_ (by with_reducible rfl) | refine AK.retE Try.hX hf rfl rfl rfl rfl ?_ ?_ | refine AK.endE Try.hX hf rfl rfl rfl rfl ?_ (by with_reducible rfl) | refine AK.endE Try.hX hf rfl rfl rfl rfl ?_ ?_ | (refine uA rfl ?_ ?_ <;> (try (show (_ : Nat) * _ ≤ _; dsimp only))) | ((first | refine AOps.splitT rfl rfl rfl asm (fun h => ?_) | refine AOps.splitF rfl rfl rfl asm (fun h => ?_) | refine AOps.split rfl rfl rfl (fun h => ?_) (fun h => ?_)) <;> (fail_if_success (cases h; done)) <;> rw [h]))
                all_goals rfl
              | succ v =>
                have c7 : decide (((v + 1 : Nat) : Int) > 0) = true := decide_eq_true (by omega)
                have hq := hin s' k' hk0' hk3
                have hle := rdX_le g s' k' hk0' hk3
                rw [rowX_more] at hinv
                rcases hx : rdX g s' k' with ⟨⟨y1, y2, y3, y4, y5⟩, s2, k2, e2⟩
                rw [hx] at hq hle hinv
                simp only at hq hle hinv
                have e7 : IntKind.i64.wrap (((v + 1 : Nat) : Int) - 1) = (v : Int) := by rw [w64 (by omega) (by omega)]; omega
                repeat' (first | refine st ?_ | (refine AK.condS rfl (fun h => ?_) (fun h => ?_) <;> first | (cases h; done) | rw [h] | skip) | refine AK.retE Try.hX hf rfl rfl rfl rfl ?_ (by with_reducible rfl) | refine AK.retE Try.hX hf rfl rfl rfl rfl ?_ ?_ | refine AK.endE Try.hX hf rfl rfl rfl rfl ?_ (by with_reducible rfl) | refine AK.endE Try.hX hf rfl rfl rfl rfl ?_ ?_ | refine AOps.calle kn rfl rfl (hq) rfl ⟨_, _, _, rfl, rfl, ⟨_, _, rfl, rfl, ⟨_, _, rfl, rfl, ⟨_, _, rfl, rfl, rfl⟩⟩⟩, ⟨_, _, rfl, rfl, rfl⟩⟩ rfl rfl rfl rfl rfl rfl rfl rfl rfl rfl rfl rfl rfl rfl ?_ | (refine uA rfl ?_ ?_ <;> (try (show (_ : Nat) * _ ≤ _; dsimp only))) | ((first | refine AOps.splitT rfl rfl rfl asm (fun h => ?_) | refine AOps.splitF rfl rfl rfl asm (fun h => ?_) | refine AOps.split rfl rfl rfl (fun h => ?_) (fun h => ?_)) <;> (fail_if_success (cases h; done)) <;> rw [h]))
                · have h1 := encNds_length acc
                  simp only [List.length_cons, List.length_nil]
                  omega
                · have hap : encNds acc ++ [encNd (.mk y1 y2 y3 y4 y5)] = encNds (acc ++ [.mk y1 y2 y3 y4 y5]) := (encNds_append acc [_]).symm
                  refine AK.ren [(4, 4), (5, 5), (1000000, 1000000)] [(5000, (0, some 5000))] (env' := [(7, .c (.int .i64 (v : Nat))), (0, .ptr 1000000 0), (1, .c (.int .i64 (25 - ((g + 1 : Nat) : Int)))), (4, .ptr 4 0), (5, .ptr 5 0)])
                    (bs' := [(4, [.c (.int .i64 0), .c (.int .i64 0), .c (.int .i64 0), .c (.str []), .own .exact 5 []]), (5, [.c (.int .i64 ((3 : Nat) : Int)), .c (.int .i64 0), .c (.int .i64 0), .c (.str []), .own (.tok 5000 0) 5 (encNds (acc ++ [.mk y1 y2 y3 y4 y5]))]), (1000000, [.c (.str s2), .c (.int .i64 k2), .c (.int .i64 e2)])]) (ts' := [(5000, 0)]) (us' := [4, 5, 1000000, 5000])
                    ⟨⟨_, rfl, .inl (congrArg (fun z => AV.c (.int .i64 z)) e7)⟩, ⟨_, rfl, ⟨_, rfl, rfl⟩⟩, ⟨_, rfl, .inl rfl⟩, ⟨_, rfl, ⟨_, rfl, rfl⟩⟩, ⟨_, rfl, ⟨_, rfl, rfl⟩⟩, trivial⟩ ⟨⟨_, _, rfl, rfl, ⟨_, _, rfl, .inl rfl, ⟨_, _, rfl, .inl rfl, ⟨_, _, rfl, .inl rfl, ⟨_, _, rfl, .inl rfl, ⟨_, _, rfl, rfl, rfl⟩⟩⟩⟩⟩⟩, ⟨_, _, rfl, rfl, ⟨_, _, rfl, .inl rfl, ⟨_, _, rfl, .inl rfl, ⟨_, _, rfl, .inl rfl, ⟨_, _, rfl, .inl rfl, ⟨_, _, rfl, ⟨_, rfl, .inr ⟨_, _, rfl, rfl, congrArg (AV.own (.tok 5000 1) 5) hap⟩⟩, rfl⟩⟩⟩⟩⟩⟩, ⟨_, _, rfl, rfl, ⟨_, _, rfl, .inl rfl, ⟨_, _, rfl, .inl rfl, ⟨_, _, rfl, .inl rfl, rfl⟩⟩⟩⟩, trivial⟩ rfl ?_
                  refine ih (v, acc ++ [.mk y1 y2 y3 y4 y5], s2, k2, e2) ⟨?_, by show 0 ≤ k2; omega, by show k2 ≤ 301; omega, hle.2.2, by show ((acc ++ [_]).length : Int) ≤ k2; simp only [List.length_append, List.length_cons, List.length_nil]; omega, by show v ≤ _; omega⟩ (by show v < v + 1; omega)
                  show rdRowX (rdX g) V (numRest (s)) (k + 1) 0 = _
                  rw [hinv]; simp
            · rw [rowX_err _ _ _ _ _ he, List.append_nil] at hinv
              rw [hinv]
              have c8 : (e' == 0) = false := by simpa using he
              clear ih
              rcases bool_of ((v : Int) > 0) with ⟨c7, _⟩ | ⟨c7, _⟩
              all_goals
                repeat' (first | refine st ?_ | (refine AK.condS rfl (fun h => ?_) (fun h => ?_) <;> first | (cases h; done) | rw [h] | skip) | refine AK.retE Try.hX hf rfl rfl rfl rfl ?_ (by with_reducible rfl) | refine AK.retE Try.hX hf rfl rfl rfl rfl ?_ ?_ | refine AK.endE Try.hX hf rfl rfl rfl rfl ?_ (by with_reducible rfl) | refine AK.endE Try.hX hf rfl rfl rfl rfl ?_ ?_ | (refine uA rfl ?_ ?_ <;> (try (show (_ : Nat) * _ ≤ _; dsimp only))) | ((first | refine AOps.splitT rfl rfl rfl asm (fun h => ?_) | refine AOps.splitF rfl rfl rfl asm (fun h => ?_) | refine AOps.split rfl rfl rfl (fun h => ?_) (fun h => ?_)) <;> (fail_if_success (cases h; done)) <;> rw [h]))
                all_goals rfl
        · rw [args_no _ _ _ _ _ (.inl (by rw [hne]; omega))]
          rw [hne, hnr] at hnum
          have h4 := bad_set [] (IntKind.i64.wrap (k + 1)) 1 1 (by omega)
          rcases bool_of (numVal (s) < 0) with ⟨c5, _⟩ | ⟨c5, _⟩ <;> rcases bool_of (numVal (s) > 0) with ⟨c6, _⟩ | ⟨c6, _⟩
          all_goals
            refine ECalls.ofL Try.func108 rfl (fun args w => Try.call108 args w) (Nat.le_of_ble_eq_true rfl) [(0, .ptr 1000000 0), (1, .c (.int .i64 (25 - ((g + 1 : Nat) : Int))))] [(1000000, [.c (.str (c :: s)), .c (.int .i64 k), .c (.int .i64 0)])] [] [1000000] rfl rfl fun β => ?_; have hf := Try.func108
            repeat' (first | refine st ?_ | (refine AK.condS rfl (fun h => ?_) (fun h => ?_) <;> first | (cases h; done) | rw [h] | skip) | refine AK.retE Try.hX hf rfl rfl rfl rfl ?_ (by with_reducible rfl) | refine AK.retE Try.hX hf rfl rfl rfl rfl ?_ ?_ | refine AK.endE Try.hX hf rfl rfl rfl rfl ?_ (by with_reducible rfl) | refine AK.endE Try.hX hf rfl rfl rfl rfl ?_ ?_ | refine AOps.calle kn rfl rfl (hbyte) rfl ⟨_, _, _, rfl, rfl, ⟨_, _, rfl, rfl, ⟨_, _, rfl, rfl, ⟨_, _, rfl, rfl, rfl⟩⟩⟩, rfl⟩ rfl rfl rfl rfl rfl rfl rfl rfl rfl rfl rfl rfl rfl rfl ?_ | refine AOps.calle kn rfl rfl (hnum) rfl ⟨_, _, _, rfl, rfl, ⟨_, _, rfl, rfl, ⟨_, _, rfl, rfl, ⟨_, _, rfl, rfl, rfl⟩⟩⟩, rfl⟩ rfl rfl rfl rfl rfl rfl rfl rfl rfl rfl rfl rfl rfl rfl ?_ | refine AOps.calle kn rfl rfl (h4) rfl ⟨_, _, _, rfl, rfl, ⟨_, _, rfl, rfl, ⟨_, _, rfl, rfl, ⟨_, _, rfl, rfl, rfl⟩⟩⟩, ⟨_, _, rfl, rfl, rfl⟩⟩ rfl rfl rfl rfl rfl rfl rfl rfl rfl rfl rfl rfl rfl rfl ?_ | (refine uA rfl ?_ ?_ <;> (try (show (_ : Nat) * _ ≤ _; dsimp only))) | ((first | refine AOps.splitT rfl rfl rfl asm (fun h => ?_) | refine AOps.splitF rfl rfl rfl asm (fun h => ?_) | refine AOps.split rfl rfl rfl (fun h => ?_) (fun h => ?_)) <;> (fail_if_success (cases h; done)) <;> rw [h]))
            refine AK.loopE (α := Unit) (fun _ => True) (fun _ => 0)
              (fun _ => [(7, .c (.int .i64 (numVal (s)))), (0, .ptr 1000000 0), (1, .c (.int .i64 (25 - ((g + 1 : Nat) : Int)))), (4, .ptr 4 0), (5, .ptr 5 0)])
              (fun _ => [(4, [.c (.int .i64 0), .c (.int .i64 0), .c (.int .i64 0), .c (.str []), .own .exact 5 []]), (5, [.c (.int .i64 ((3 : Nat) : Int)), .c (.int .i64 0), .c (.int .i64 0), .c (.str []), .own .exact 5 []]), (1000000, [.c (.str []), .c (.int .i64 (IntKind.i64.wrap (k + 1))), .c (.int .i64 1)])]) (fun _ => []) [4, 5, 1000000] ()
              trivial ⟨.inl rfl, .inl rfl, .inl rfl, .inl rfl, .inl rfl, trivial⟩ ⟨rfl, rfl, rfl, trivial⟩ trivial rfl rfl rfl ?_
            rintro _ _ ih
            clear ih
            repeat' (first | refine st ?_ | (refine AK.condS rfl (fun h => ?_) (fun h => ?_) <;> first | (cases h; done) | rw [h] | skip) | refine AK.retE Try.hX hf rfl rfl rfl rfl ?_ (by with_reducible rfl) | refine AK.retE Try.hX hf rfl rfl rfl rfl ?_ ?_ | refine AK.endE Try.hX hf rfl rfl rfl rfl ?_ (by with_reducible rfl) | refine AK.endE Try.hX hf rfl rfl rfl rfl ?_ ?_ | (refine uA rfl ?_ ?_ <;> (try (show (_ : Nat) * _ ≤ _; dsimp only))) | ((first | refine AOps.splitT rfl rfl rfl asm (fun h => ?_) | refine AOps.splitF rfl rfl rfl asm (fun h => ?_) | refine AOps.split rfl rfl rfl (fun h => ?_) (fun h => ?_)) <;> (fail_if_success (cases h; done)) <;> rw [h]))
            all_goals first | rfl | (rw [e1])
      · rw [body_no _ _ _ _ (by omega)]
        have f0 : ((q : Int) == 0) = false := by simpa using q0
        have f1 : ((q : Int) == 1) = false := by simp; omega
        have f2 : ((q : Int) == 2) = false := by simp; omega
        have f3 : ((q : Int) == 3) = false := by simp; omega
        have h3 := number_err (IntKind.i64.wrap (k + 1)) 1 (by omega)
        have h4 := bad_zero s (IntKind.i64.wrap (k + 1)) 1
        refine ECalls.ofL Try.func108 rfl (fun args w => Try.call108 args w) (Nat.le_of_ble_eq_true rfl) [(0, .ptr 1000000 0), (1, .c (.int .i64 (25 - ((g + 1 : Nat) : Int))))] [(1000000, [.c (.str (c :: s)), .c (.int .i64 k), .c (.int .i64 0)])] [] [1000000] rfl rfl fun β => ?_; have hf := Try.func108
        repeat' (first | refine st ?_ | (refine AK.condS rfl (fun h => ?_) (fun h => ?_) <;> first | (cases h; done) | rw [h] | skip) | refine AK.retE Try.hX hf rfl rfl rfl rfl ?_ (by with_reducible rfl) | refine AK.retE Try.hX hf rfl rfl rfl rfl ?_ ?_ | refine AK.endE Try.hX hf rfl rfl rfl rfl ?_ (by with_reducible rfl) | refine AK.endE Try.hX hf rfl rfl rfl rfl ?_ ?_ | refine AOps.calle kn rfl rfl (hbyte) rfl ⟨_, _, _, rfl, rfl, ⟨_, _, rfl, rfl, ⟨_, _, rfl, rfl, ⟨_, _, rfl, rfl, rfl⟩⟩⟩, rfl⟩ rfl rfl rfl rfl rfl rfl rfl rfl rfl rfl rfl rfl rfl rfl ?_ | refine AOps.calle kn rfl rfl (h3) rfl ⟨_, _, _, rfl, rfl, ⟨_, _, rfl, rfl, ⟨_, _, rfl, rfl, ⟨_, _, rfl, rfl, rfl⟩⟩⟩, rfl⟩ rfl rfl rfl rfl rfl rfl rfl rfl rfl rfl rfl rfl rfl rfl ?_ | refine AOps.calle kn rfl rfl (h4) rfl ⟨_, _, _, rfl, rfl, ⟨_, _, rfl, rfl, ⟨_, _, rfl, rfl, ⟨_, _, rfl, rfl, rfl⟩⟩⟩, ⟨_, _, rfl, rfl, rfl⟩⟩ rfl rfl rfl rfl rfl rfl rfl rfl rfl rfl rfl rfl rfl rfl ?_ | (refine uA rfl ?_ ?_ <;> (try (show (_ : Nat) * _ ≤ _; dsimp only))) | ((first | refine AOps.splitT rfl rfl rfl asm (fun h => ?_) | refine AOps.splitF rfl rfl rfl asm (fun h => ?_) | refine AOps.split rfl rfl rfl (fun h => ?_) (fun h => ?_)) <;> (fail_if_success (cases h; done)) <;> rw [h]))
        refine AK.loopE (α := Unit) (fun _ => True) (fun _ => 0)
          (fun _ => [(7, .c (.int .i64 0)), (0, .ptr 1000000 0), (1, .c (.int .i64 (25 - ((g + 1 : Nat) : Int)))), (4, .ptr 4 0), (5, .ptr 5 0)])
          (fun _ => [(4, [.c (.int .i64 0), .c (.int .i64 0), .c (.int .i64 0), .c (.str []), .own .exact 5 []]), (5, [.c (.int .i64 (q : Int)), .c (.int .i64 0), .c (.int .i64 0), .c (.str []), .own .exact 5 []]), (1000000, [.c (.str []), .c (.int .i64 (IntKind.i64.wrap (k + 1))), .c (.int .i64 1)])]) (fun _ => []) [4, 5, 1000000] ()
          trivial ⟨.inl rfl, .inl rfl, .inl rfl, .inl rfl, .inl rfl, trivial⟩ ⟨rfl, rfl, rfl, trivial⟩ trivial rfl rfl rfl ?_
        rintro _ _ ih
        clear ih
        repeat' (first | refine st ?_ | (refine AK.condS rfl (fun h => ?_) (fun h => ?_) <;> first | (cases h; done) | rw [h] | skip) | refine AK.retE Try.hX hf rfl rfl rfl rfl ?_ (by with_reducible rfl) | refine AK.retE Try.hX hf rfl rfl rfl rfl ?_ ?_ | refine AK.endE Try.hX hf rfl rfl rfl rfl ?_ (by with_reducible rfl) | refine AK.endE Try.hX hf rfl rfl rfl rfl ?_ ?_ | (refine uA rfl ?_ ?_ <;> (try (show (_ : Nat) * _ ≤ _; dsimp only))) | ((first | refine AOps.splitT rfl rfl rfl asm (fun h => ?_) | refine AOps.splitF rfl rfl rfl asm (fun h => ?_) | refine AOps.split rfl rfl rfl (fun h => ?_) (fun h => ?_)) <;> (fail_if_success (cases h; done)) <;> rw [h]))
        all_goals first | rfl | (rw [e1])

attribute [local irreducible] tDecode
theorem tDecode_eq (s : List UInt8) : tDecode s = match rdNode 24 s 300 with
  | .no e => (nd0, e)
  | .ok n r _ => if r = [] then (n, 0) else (nd0, 1) := by unfold tDecode; rfl

set_option maxHeartbeats 0 in
theorem Decode_calls (s : List UInt8) : QCalls Try.prog Try.X 63 [.str s] (.tup [encNd (tDecode s).1, .int .i64 (tDecode s).2]) := by
  have h1 := rdnode_calls 24 s 0 (by omega) (by omega) (by omega)
  have hl := rdX_like 24 s 300 (by omega)
  rw [show (300 : Int) - ((300 : Nat) : Int) = 0 from rfl] at hl
  rw [show (25 : Int) - ((24 : Nat) : Int) = 1 from rfl] at h1
  rw [tDecode_eq]
  cases hr : rdNode 24 s 300 with
  | no e =>
    rw [hr] at hl
    simp only [Like] at hl
    rcases hx : rdX 24 s 0 with ⟨⟨y1, y2, y3, y4, y5⟩, s2, k2, e2⟩
    rw [hx] at h1 hl
    simp only at h1 hl
    obtain ⟨rfl, rfl, he⟩ := hl
    have c1 : (e2 == 0) = false := by simpa using he
    have c2 : (e2 != 0) = true := by simpa using he
    refine QCalls.of Try.func63 rfl (fun args w => Try.call63 args w) (Nat.le_of_ble_eq_true rfl) [(0, .c (.str s))] rfl fun β hβ => ?_; have hf := Try.func63
    repeat' (first | refine st ?_ | (refine AK.condS rfl (fun h => ?_) (fun h => ?_) <;> first | (cases h; done) | rw [h] | skip) | refine uQ hf rfl rfl ?_ | refine AOps.calle kn rfl rfl (h1) rfl ⟨_, _, _, rfl, rfl, ⟨_, _, rfl, rfl, ⟨_, _, rfl, rfl, ⟨_, _, rfl, rfl, rfl⟩⟩⟩, ⟨_, _, rfl, rfl, rfl⟩⟩ rfl rfl rfl rfl rfl rfl rfl rfl rfl rfl rfl rfl rfl rfl ?_ | ((first | refine AOps.splitT rfl rfl rfl asm (fun h => ?_) | refine AOps.splitF rfl rfl rfl asm (fun h => ?_) | refine AOps.split rfl rfl rfl (fun h => ?_) (fun h => ?_)) <;> (fail_if_success (cases h; done)) <;> rw [h]))
    all_goals rfl
  | ok n r l =>
    rw [hr] at hl
    simp only [Like] at hl
    rw [hl.1] at h1
    simp only at h1
    obtain ⟨y1, y2, y3, y4, y5⟩ := n
    cases r with
    | nil =>
      refine QCalls.of Try.func63 rfl (fun args w => Try.call63 args w) (Nat.le_of_ble_eq_true rfl) [(0, .c (.str s))] rfl fun β hβ => ?_; have hf := Try.func63
      repeat' (first | refine st ?_ | (refine AK.condS rfl (fun h => ?_) (fun h => ?_) <;> first | (cases h; done) | rw [h] | skip) | refine uQ hf rfl rfl ?_ | refine AOps.calle kn rfl rfl (h1) rfl ⟨_, _, _, rfl, rfl, ⟨_, _, rfl, rfl, ⟨_, _, rfl, rfl, ⟨_, _, rfl, rfl, rfl⟩⟩⟩, ⟨_, _, rfl, rfl, rfl⟩⟩ rfl rfl rfl rfl rfl rfl rfl rfl rfl rfl rfl rfl rfl rfl ?_ | ((first | refine AOps.splitT rfl rfl rfl asm (fun h => ?_) | refine AOps.splitF rfl rfl rfl asm (fun h => ?_) | refine AOps.split rfl rfl rfl (fun h => ?_) (fun h => ?_)) <;> (fail_if_success (cases h; done)) <;> rw [h]))
      all_goals rfl
    | cons c r =>
      have h2 := bad_zero (c :: r) (300 - (l : Int)) 1
      refine QCalls.of Try.func63 rfl (fun args w => Try.call63 args w) (Nat.le_of_ble_eq_true rfl) [(0, .c (.str s))] rfl fun β hβ => ?_; have hf := Try.func63
      repeat' (first | refine st ?_ | (refine AK.condS rfl (fun h => ?_) (fun h => ?_) <;> first | (cases h; done) | rw [h] | skip) | refine uQ hf rfl rfl ?_ | refine AOps.calle kn rfl rfl (h1) rfl ⟨_, _, _, rfl, rfl, ⟨_, _, rfl, rfl, ⟨_, _, rfl, rfl, ⟨_, _, rfl, rfl, rfl⟩⟩⟩, ⟨_, _, rfl, rfl, rfl⟩⟩ rfl rfl rfl rfl rfl rfl rfl rfl rfl rfl rfl rfl rfl rfl ?_ | refine AOps.calle kn rfl rfl (h2) rfl ⟨_, _, _, rfl, rfl, ⟨_, _, rfl, rfl, ⟨_, _, rfl, rfl, ⟨_, _, rfl, rfl, rfl⟩⟩⟩, ⟨_, _, rfl, rfl, rfl⟩⟩ rfl rfl rfl rfl rfl rfl rfl rfl rfl rfl rfl rfl rfl rfl ?_ | ((first | refine AOps.splitT rfl rfl rfl asm (fun h => ?_) | refine AOps.splitF rfl rfl rfl asm (fun h => ?_) | refine AOps.split rfl rfl rfl (fun h => ?_) (fun h => ?_)) <;> (fail_if_success (cases h; done)) <;> rw [h]))
      all_goals rfl
end Go.Proofs

set_option linter.unusedVariables false
set_option linter.unusedSimpArgs false
set_option maxRecDepth 100000
namespace Go.Proofs
open Go.Abs
theorem kids {k n a : Int} {s : List UInt8} {args : List Vl} {types : List Ty} {code : List Nd} {t : Ty} (h : vHas (.mk k n a s args types code) t = true) (hb : tBad t = false) (hk : k = 9 ∨ k = 10 ∨ k = 11 ∨ k = 12 ∨ k = 13) :
    ∀ x ∈ args, ∃ u, tBad u = false ∧ vHas x u = true := by
  intro x hx
  have h0 := (vHas_head h).1
  have hbd := vHas_body h
  obtain ⟨har, hbs⟩ := tBad_args hb
  rw [← h0] at har
  rcases hk with rfl | rfl | rfl | rfl | rfl
  · simp [vBody] at hbd
    have : arity 9 = 1 := by decide
    exact ⟨_, tBads_mem hbs (tyArg_mem (i := 0) (by omega)), (vHasAll_iff _ _).1 hbd.2 x hx⟩
  · simp [vBody] at hbd
    have : arity 10 = 1 := by decide
    exact ⟨_, tBads_mem hbs (tyArg_mem (i := 0) (by omega)), (vHasAll_iff _ _).1 hbd.2 x hx⟩
  · simp [vBody] at hbd
    have : arity 11 = 2 := by decide
    obtain ⟨y, z, u, w, e1, e2, e3, e4⟩ := row_two hbd.1.2 (by omega) hbd.2
    rw [e2] at hbs
    rw [e1] at hx
    simp only [List.mem_cons, List.not_mem_nil, or_false] at hx
    rcases hx with rfl | rfl
    · exact ⟨u, tBads_mem hbs (by simp), e3⟩
    · exact ⟨w, tBads_mem hbs (by simp), e4⟩
  · simp [vBody] at hbd
    have : arity 12 = 2 := by decide
    exact ⟨_, tBads_mem hbs (tyArg_mem (i := n.toNat) (by omega)), (vHasAll_iff _ _).1 hbd.2 x hx⟩
  · simp [vBody] at hbd
    have : arity 13 = 2 := by decide
    refine ⟨.mk 11 (tyArgs t), ?_, (vHasAll_iff _ _).1 hbd.1.2 x hx⟩
    simp only [tBad, Bool.or_eq_false_iff]
    exact ⟨decide_eq_false (by simp; have : arity 11 = 2 := by decide
                               omega), hbs⟩
theorem kids2 {x : Vl} {ts : List Ty} (h : vHas x (.mk 11 ts) = true) : vK x = 11 := by
  cases x with | mk k n a s args types code => exact (vHas_head h).1
theorem vNodes_len : ∀ l : List Vl, (vNodes l).length = l.length
  | [] => by simp [vNodes]
  | x :: l => by simp [vNodes, vNodes_len l]
attribute [local irreducible] AK AOps QCalls ECalls vNode vNodes vElts tHas vHas tGoodN tDecode bytesN vPar tGood tPack

end Go.Proofs

set_option linter.unusedVariables false
set_option linter.unusedSimpArgs false
namespace Go.Abs
def set28 : Nd → Nd
  | .mk k n _ s args => .mk k n 28 s args
mutual
def rNode : Vl → Nd
  | .mk k n _ s args _ _ =>
    if k = 1 then .mk 2 0 20 [] (rNodes args)
    else if k = 2 then .mk 2 0 (IntKind.i64.wrap (22 - n)) [] (rNodes args)
    else if k = 6 then .mk 1 0 0 s []
    else if k = 9 then .mk 2 0 (IntKind.i64.wrap (27 - args.length)) [] (rNodes args)
    else if k = 10 then .mk 3 0 0 [] (rNodes args)
    else if k = 11 then .mk 2 0 23 [] (rNodes args)
    else if k = 12 then .mk 2 0 (IntKind.i64.wrap (24 + n)) [] (rNodes args)
    else if k = 13 then .mk 3 0 0 [] ((rNodes args).map set28)
    else .mk 0 n 0 [] []
def rNodes : List Vl → List Nd
  | [] => []
  | x :: l => rNode x :: rNodes l
end
theorem rNodes_len : ∀ l : List Vl, (rNodes l).length = l.length
  | [] => rfl
  | x :: l => by simp only [rNodes, List.length_cons, rNodes_len l]
theorem rNodes_append : ∀ a b : List Vl, rNodes (a ++ b) = rNodes a ++ rNodes b
  | [], b => rfl
  | x :: a, b => by simp only [List.cons_append, rNodes, rNodes_append a b]
theorem rNodes_snoc (l : List Vl) (i : Nat) (x : Vl) (h : l[i]? = some x) : rNodes (l.take (i + 1)) = rNodes (l.take i) ++ [rNode x] := by
  rw [List.take_add_one, h, rNodes_append]; rfl
theorem encNds_append : ∀ a b : List Nd, encNds (a ++ b) = encNds a ++ encNds b
  | [], b => rfl
  | x :: a, b => by simp only [List.cons_append, encNds, encNds_append a b]
theorem encNds_cells : ∀ (l : List Nd), ∀ r ∈ encNds l, r.cells.length = 5
  | [], r, h => by simp [encNds] at h
  | .mk k n p s args :: l, r, h => by
    simp only [encNds, List.mem_cons] at h
    rcases h with rfl | h
    · rfl
    · exact encNds_cells l r h
theorem encNds_flat (l : List Nd) : (flatC (encNds l)).length = l.length * 5 := by
  rw [flatC_length (encNds_cells l), encNds_length]
/-- A row's third cell set to 28. -/
theorem set28_row : ∀ (l : List Nd) (i : Nat) (x : Nd), l[i]? = some x → (rowCells (encNds l)).set (0 + i * 5 + 2) (.c (.int .i64 28)) = rowCells (encNds (l.set i (set28 x)))
  | [], i, x, h => by simp at h
  | .mk k n p s args :: l, 0, x, h => by
    simp at h; subst h
    simp [encNds, encNd, rowCells, flatC, CV.cells, set28]
  | .mk k n p s args :: l, i + 1, x, h => by
    have ih := set28_row l i x (by simpa using h)
    simp only [encNds, encNd, rowCells, flatC, CV.cells, List.map_append, List.map_cons, List.map_nil, List.set_cons_succ] at ih ⊢
    rw [show 0 + (i + 1) * 5 + 2 = (0 + i * 5 + 2) + 1 + 1 + 1 + 1 + 1 from by omega]
    simp only [List.cons_append, List.nil_append, List.set_cons_succ, ih]
theorem map28_step (l : List Nd) (i : Nat) (x : Nd) (h : l[i]? = some x) : ((l.take i).map set28 ++ l.drop i).set i (set28 x) = (l.take (i + 1)).map set28 ++ l.drop (i + 1) := by
  have hlt : i < l.length := (List.getElem?_eq_some_iff.1 h).1
  have hd : l.drop i = x :: l.drop (i + 1) := by
    rw [List.drop_eq_getElem_cons hlt, (List.getElem?_eq_some_iff.1 h).2]
  rw [hd, List.take_add_one, h]
  simp [List.set_append, Nat.min_eq_left (Nat.le_of_lt hlt)]
theorem map28_at (l : List Nd) (i : Nat) (x : Nd) (h : l[i]? = some x) : ((l.take i).map set28 ++ l.drop i)[i]? = some x := by
  have hlt : i < l.length := (List.getElem?_eq_some_iff.1 h).1
  rw [List.getElem?_append_right (by simp; omega)]
  simp [Nat.min_eq_left (Nat.le_of_lt hlt), h]
theorem elts_of : ∀ (l : List Vl), (∀ x ∈ l, vK x = 11) → (vNodes l).map set28 = vElts l
  | [], _ => rfl
  | .mk k n a s args types code :: l, h => by
    obtain rfl : k = 11 := h _ (List.mem_cons_self ..)
    have ih := elts_of l (fun x hx => h x (List.mem_cons_of_mem _ hx))
    simp [vNodes, vElts, vNode, set28, ih]
open Go.Proofs in
mutual
theorem rNode_has : ∀ (v : Vl) (t : Ty), tBad t = false → vHas v t = true → rNode v = vNode v
  | .mk k n a s args types code, t, hbd, h => by
    have hb := vHas_body h
    have hkids : (k = 9 ∨ k = 10 ∨ k = 11 ∨ k = 12 ∨ k = 13) → rNodes args = vNodes args := fun hk => rNodes_has args (kids h hbd hk)
    simp only [rNode, vNode]
    by_cases h1 : k = 1
    · subst h1; simp [vBody] at hb; obtain rfl := hb.2; simp [rNodes]
    by_cases h2 : k = 2
    · subst h2; simp [vBody] at hb; obtain ⟨h3, h4, rfl⟩ := hb; simp [rNodes]; exact w64 (by omega) (by omega)
    by_cases h6 : k = 6
    · subst h6; simp
    by_cases h9 : k = 9
    · subst h9; simp [vBody] at hb
      have := hkids (by decide)
      simp [this]; exact w64 (by omega) (by omega)
    by_cases h10 : k = 10
    · subst h10; simp [vBody] at hb
      have := hkids (by decide)
      simp [this]
    by_cases h11 : k = 11
    · subst h11; simp [vBody] at hb
      have := hkids (by decide)
      simp [this]
    by_cases h12 : k = 12
    · subst h12; simp [vBody] at hb
      have := hkids (by decide)
      simp [this]; exact w64 (by omega) (by omega)
    by_cases h13 : k = 13
    · subst h13; simp [vBody] at hb
      have := hkids (by decide)
      simp [this]
      exact elts_of args (fun x hx => kids2 ((vHasAll_iff _ _).1 hb.1.2 x hx))
    simp [h1, h2, h6, h9, h10, h11, h12, h13]
theorem rNodes_has : ∀ (l : List Vl), (∀ x ∈ l, ∃ u, tBad u = false ∧ vHas x u = true) → rNodes l = vNodes l
  | [], _ => rfl
  | x :: l, h => by
    obtain ⟨u, h1, h2⟩ := h x (List.mem_cons_self ..)
    have h3 := rNode_has x u h1 h2
    have h4 := rNodes_has l (fun y hy => h y (List.mem_cons_of_mem _ hy))
    simp only [rNodes, vNodes, h3, h4]
end
end Go.Abs

set_option linter.unusedVariables false
set_option linter.unusedSimpArgs false
namespace Go.Abs
mutual
/-- No ticket, no big thing and no lambda is in it. -/
def vPk : Vl → Bool
  | .mk k _ _ _ args _ _ => decide (k ≠ 8 ∧ k ≠ 14 ∧ k ≠ 15) && vPks args
def vPks : List Vl → Bool
  | [] => true
  | x :: l => vPk x && vPks l
end
theorem vPk_parts {k n a : Int} {s : List UInt8} {args : List Vl} {types : List Ty} {code : List Nd} (h : vPk (.mk k n a s args types code) = true) : (k ≠ 8 ∧ k ≠ 14 ∧ k ≠ 15) ∧ vPks args = true := by
  simpa [vPk] using h
mutual
theorem par_back2 : ∀ (v : Vl) (t : Ty), vPk v = true → tBad t = false → vHas v t = true → vPar (vNode v) t = (v, true)
  | .mk k n a s args types code, t, hp, hb, h => by
    have hk := (vHas_head h).1
    have hpn := (vPk_parts hp).1
    obtain ⟨rfl, rfl, rfl, hs⟩ := vHas_parts h hpn
    have hbd := vHas_body h
    obtain ⟨har, hbs⟩ := tBad_args hb
    rw [← hk] at har
    have hps := (vPk_parts hp).2
    have hrg := arity_rng har
    have ihr := row_back2 args
    have iha := parAll_back2 args
    have ihm := parMap_back2 args
    clear h hp hb
    rcases (by omega : k = 1 ∨ k = 2 ∨ k = 3 ∨ k = 4 ∨ k = 5 ∨ k = 6 ∨ k = 7 ∨ k = 9 ∨ k = 10 ∨ k = 11 ∨ k = 12 ∨ k = 13) with rfl | rfl | rfl | rfl | rfl | rfl | rfl | rfl | rfl | rfl | rfl | rfl
    · obtain rfl := hs (by decide)
      simp [vBody] at hbd
      obtain ⟨rfl, rfl⟩ := hbd
      simp [vNode, vPar, ← hk, val0]
    · obtain rfl := hs (by decide)
      simp [vBody] at hbd
      obtain ⟨h1, h2, rfl⟩ := hbd
      rcases (by omega : n = 0 ∨ n = 1) with rfl | rfl <;> simp [vNode, vPar, ← hk, val0] <;> decide
    · obtain rfl := hs (by decide)
      simp [vBody] at hbd
      obtain ⟨h1, h2, rfl⟩ := hbd
      simp [vNode, vPar, ← hk, val0]
    · obtain rfl := hs (by decide)
      simp [vBody] at hbd
      obtain ⟨h1, h2, rfl⟩ := hbd
      simp [vNode, vPar, ← hk, val0]
    · obtain rfl := hs (by decide)
      simp [vBody] at hbd
      obtain ⟨h1, h2, rfl⟩ := hbd
      simp [vNode, vPar, ← hk, val0]
    · simp [vBody] at hbd
      obtain ⟨rfl, rfl⟩ := hbd
      simp [vNode, vPar, ← hk, val0]
    · obtain rfl := hs (by decide)
      simp [vBody] at hbd
      obtain ⟨h1, h2, rfl⟩ := hbd
      simp [vNode, vPar, ← hk, val0]
    · obtain rfl := hs (by decide)
      simp [vBody] at hbd
      obtain ⟨⟨rfl, h2⟩, h3⟩ := hbd
      cases args with
      | nil => simp [vNode, vPar, ← hk, val0, vNodes]
      | cons x l =>
        have hl : l = [] := List.length_eq_zero_iff.1 (by simp only [List.length_cons] at h2; omega)
        subst hl
        have ha9 : arity 9 = 1 := by decide
        have hts : tyArgs t = [tyArg t 0] := by
          match hh : tyArgs t, (show (tyArgs t).length = 1 by omega) with
          | [u], _ => simp [tyArg, hh]
        have hr := ihr (tyArgs t) hps hbs (by rw [hts]; rfl) (by rw [hts]; simp only [vHasAll, Bool.and_eq_true] at h3; simp [vHasRow, h3.1])
        simp [vNode, vPar, ← hk, hr]
    · obtain rfl := hs (by decide)
      simp [vBody] at hbd
      obtain ⟨⟨rfl, h2⟩, h3⟩ := hbd
      have ha : arity 10 = 1 := by decide
      have hm : tyArg t 0 ∈ tyArgs t := tyArg_mem (by omega)
      have hr := iha (tyArg t 0) hps (tBads_mem hbs hm) h3
      simp [vNode, vPar, ← hk, hr]
    · obtain rfl := hs (by decide)
      simp [vBody] at hbd
      obtain ⟨⟨rfl, h2⟩, h3⟩ := hbd
      have ha : arity 11 = 2 := by decide
      have hr := ihr (tyArgs t) hps hbs (by omega) h3
      simp [vNode, vPar, ← hk, hr]
    · obtain rfl := hs (by decide)
      simp [vBody] at hbd
      obtain ⟨⟨h1, h2, h3⟩, h4⟩ := hbd
      have ha : arity 12 = 2 := by decide
      have hm : tyArg t n.toNat ∈ tyArgs t := tyArg_mem (by omega)
      have hrow : vHasRow args [tyArg t n.toNat] = true := by
        match args, h3 with
        | [x], _ => simp only [vHasAll, Bool.and_eq_true] at h4; simp [vHasRow, h4.1]
      have hr := ihr [tyArg t n.toNat] hps (by simp only [tBads, Bool.or_false]; exact tBads_mem hbs hm) (by simp [h3]) hrow
      rcases (by omega : n = 0 ∨ n = 1) with rfl | rfl
      · simp at hr; simp [vNode, vPar, ← hk, hr]
      · simp at hr; simp [vNode, vPar, ← hk, hr]
    · obtain rfl := hs (by decide)
      simp [vBody] at hbd
      obtain ⟨⟨⟨rfl, h2⟩, h3⟩, h4⟩ := hbd
      have ha : arity 13 = 2 := by decide
      have hr := ihm (tyArgs t) hps hbs (by omega) h3
      simp [vNode, vPar, ← hk, hr]
theorem row_back2 : ∀ (l : List Vl) (ts : List Ty), vPks l = true → tBads ts = false → l.length = ts.length → vHasRow l ts = true → vRow (vNodes l) ts = (l, true)
  | [], [], _, _, _, _ => by simp [vNodes, vRow]
  | [], _ :: _, _, _, h, _ => by simp at h
  | _ :: _, [], _, _, h, _ => by simp at h
  | x :: l, t :: ts, hp, hb, hl, h => by
    simp only [vPks, Bool.and_eq_true] at hp
    simp only [tBads, Bool.or_eq_false_iff] at hb
    simp only [vHasRow, Bool.and_eq_true] at h
    have h1 := par_back2 x t hp.1 hb.1 h.1
    have h2 := row_back2 l ts hp.2 hb.2 (by simpa using hl) h.2
    simp [vNodes, vRow, h1, h2, glue]
theorem parAll_back2 : ∀ (l : List Vl) (t : Ty), vPks l = true → tBad t = false → vHasAll l t = true → vParAll (vNodes l) t = (l, true)
  | [], _, _, _, _ => by simp [vNodes, vParAll]
  | x :: l, t, hp, hb, h => by
    simp only [vHasAll, Bool.and_eq_true] at h
    simp only [vPks, Bool.and_eq_true] at hp
    have h1 := par_back2 x t hp.1 hb h.1
    have h2 := parAll_back2 l t hp.2 hb h.2
    simp [vNodes, vParAll, h1, h2]
theorem parMap_back2 : ∀ (l : List Vl) (ts : List Ty), vPks l = true → tBads ts = false → ts.length = 2 → vHasAll l (.mk 11 ts) = true → vParMap (vElts l) ts = (l, true)
  | [], _, _, _, _, _ => by simp [vElts, vParMap]
  | .mk k n a s args types code :: l, ts, hp, hb, h2l, h => by
    simp only [vHasAll, Bool.and_eq_true] at h
    have hk := (vHas_head h.1).1
    simp only [tyT] at hk
    subst hk
    obtain ⟨rfl, rfl, rfl, hs⟩ := vHas_parts h.1 (by decide)
    obtain rfl := hs (by decide)
    have hbd := vHas_body h.1
    simp [vBody, tyArgs] at hbd
    obtain ⟨⟨rfl, h3⟩, h4⟩ := hbd
    simp only [vPks, Bool.and_eq_true] at hp
    have h1 := row_back2 args ts (vPk_parts hp.1).2 hb (by omega) h4
    have h2 := parMap_back2 l ts hp.2 hb h2l h.2
    simp [vElts, vParMap, h1, h2]
end
mutual
theorem par_only2 : ∀ (n : Nd) (t : Ty) (d : Int), tBad t = false → (vPar n t).2 = true → vHas (vPar n t).1 t = true → wrong n d = 0 → vNode (vPar n t).1 = n
  | .mk kind N P S args, t, d, hb, hok, h, hw => by
    obtain ⟨hw1, hws⟩ := wrong_eq hw
    obtain ⟨_, hkd, hN, hP, hS, hA, _, _, _⟩ := wrong1_eq hw1
    have ihr := row_only2 args
    have iha := parAll_only2 args
    have ihm := parMap_only2 args
    obtain ⟨har, hbs⟩ := tBad_args hb
    have hrg := arity_rng har
    clear hw hw1 hb
    rcases (by omega : tyT t = 1 ∨ tyT t = 2 ∨ tyT t = 3 ∨ tyT t = 4 ∨ tyT t = 5 ∨ tyT t = 6 ∨ tyT t = 7 ∨ tyT t = 8 ∨ tyT t = 14 ∨ tyT t = 15 ∨ tyT t = 9 ∨ tyT t = 10 ∨ tyT t = 11 ∨ tyT t = 12 ∨ tyT t = 13) with hT | hT | hT | hT | hT | hT | hT | hT | hT | hT | hT | hT | hT | hT | hT
    all_goals rw [hT] at har
    · simp [vPar, hT] at hok
      obtain ⟨rfl, rfl, rfl⟩ := hok
      obtain rfl := hN (by decide)
      obtain rfl := hS (by decide)
      simp [vPar, hT, vNode, val0]
    · simp [vPar, hT] at hok
      obtain ⟨rfl, hP2, rfl⟩ := hok
      obtain rfl := hN (by decide)
      obtain rfl := hS (by decide)
      rcases hP2 with rfl | rfl <;> simp [vPar, hT, vNode, val0] <;> decide
    · simp [vPar, hT] at hok
      subst hok
      obtain rfl := hP (by decide)
      obtain rfl := hS (by decide)
      obtain rfl := List.length_eq_zero_iff.1 (hA (by decide))
      simp [vPar, hT, vNode, val0]
    · simp [vPar, hT] at hok
      subst hok
      obtain rfl := hP (by decide)
      obtain rfl := hS (by decide)
      obtain rfl := List.length_eq_zero_iff.1 (hA (by decide))
      simp [vPar, hT, vNode, val0]
    · simp [vPar, hT] at hok
      subst hok
      obtain rfl := hP (by decide)
      obtain rfl := hS (by decide)
      obtain rfl := List.length_eq_zero_iff.1 (hA (by decide))
      simp [vPar, hT, vNode, val0]
    · simp [vPar, hT] at hok
      subst hok
      obtain rfl := hN (by decide)
      obtain rfl := hP (by decide)
      obtain rfl := List.length_eq_zero_iff.1 (hA (by decide))
      simp [vPar, hT, vNode, val0]
    · simp [vPar, hT] at hok
      subst hok
      obtain rfl := hP (by decide)
      obtain rfl := hS (by decide)
      obtain rfl := List.length_eq_zero_iff.1 (hA (by decide))
      simp [vPar, hT, vNode, val0]
    · simp [vPar, hT] at hok
    · simp [vPar, hT] at hok
    · simp [vPar, hT] at hok
    · by_cases c1 : kind = 2 ∧ P = 27
      · obtain ⟨rfl, rfl⟩ := c1
        simp [vPar, hT] at hok
        subst hok
        obtain rfl := hN (by decide)
        obtain rfl := hS (by decide)
        simp [vPar, hT, vNode, val0, vNodes]
      · by_cases c2 : kind = 2 ∧ P = 26
        · obtain ⟨rfl, rfl⟩ := c2
          obtain rfl := hN (by decide)
          obtain rfl := hS (by decide)
          simp [vPar, hT] at hok h ⊢
          have hbd := vHas_body h
          simp [vBody] at hbd
          have ha9 : arity 9 = 1 := by decide
          have hts : tyArgs t = [tyArg t 0] := by
            match hh : tyArgs t, (show (tyArgs t).length = 1 by omega) with
            | [u], _ => simp [tyArg, hh]
          have hrow : vHasRow (vRow args (tyArgs t)).1 (tyArgs t) = true := by
            generalize vRow args (tyArgs t) = q at hbd
            rw [hts]
            match hq : q.1, hbd with
            | [], _ => simp [vHasRow]
            | [x], hbd => simp [vHasAll, hq] at hbd; simp [vHasRow, hbd]
            | x :: y :: l, hbd => simp [hq] at hbd
          obtain ⟨e1, e2, e3⟩ := ihr (tyArgs t) (d + 1) hbs hok hrow hws
          simp only [vNode]
          simp only [e1, e2]
          simp; omega
        · simp [vPar, hT, c1, c2] at hok
    · simp [vPar, hT] at hok
      obtain ⟨rfl, hok⟩ := hok
      obtain rfl := hN (by decide)
      obtain rfl := hP (by decide)
      obtain rfl := hS (by decide)
      simp [vPar, hT] at h ⊢
      have hbd := vHas_body h
      simp [vBody] at hbd
      have ha : arity 10 = 1 := by decide
      have hm : tyArg t 0 ∈ tyArgs t := tyArg_mem (by omega)
      have e1 := iha (tyArg t 0) (d + 1) (tBads_mem hbs hm) hok hbd.2 hws
      simp [vNode, e1]
    · by_cases c1 : kind = 2 ∧ P = 23
      · obtain ⟨rfl, rfl⟩ := c1
        obtain rfl := hN (by decide)
        obtain rfl := hS (by decide)
        simp [vPar, hT] at hok h ⊢
        have hbd := vHas_body h
        simp [vBody] at hbd
        obtain ⟨e1, e2, e3⟩ := ihr (tyArgs t) (d + 1) hbs hok hbd.2 hws
        simp [vNode, e1]
      · simp [vPar, hT, c1] at hok
    · by_cases c1 : kind = 2 ∧ P = 24
      · obtain ⟨rfl, rfl⟩ := c1
        obtain rfl := hN (by decide)
        obtain rfl := hS (by decide)
        simp [vPar, hT] at hok h ⊢
        have hbd := vHas_body h
        simp [vBody] at hbd
        have ha : arity 12 = 2 := by decide
        have hm : tyArg t 0 ∈ tyArgs t := tyArg_mem (by omega)
        have hrow : vHasRow (vRow args [tyArg t 0]).1 [tyArg t 0] = true := by
          generalize vRow args [tyArg t 0] = q at hbd
          match hq : q.1, hbd with
          | [], _ => simp [vHasRow]
          | [x], hbd => simp [vHasAll, hq] at hbd; simp [vHasRow, hbd]
          | x :: y :: l, hbd => simp [hq] at hbd
        obtain ⟨e1, e2, e3⟩ := ihr [tyArg t 0] (d + 1) (by simp only [tBads, Bool.or_false]; exact tBads_mem hbs hm) hok hrow hws
        simp [vNode, e1]
      · by_cases c2 : kind = 2 ∧ P = 25
        · obtain ⟨rfl, rfl⟩ := c2
          obtain rfl := hN (by decide)
          obtain rfl := hS (by decide)
          simp [vPar, hT] at hok h ⊢
          have hbd := vHas_body h
          simp [vBody] at hbd
          have ha : arity 12 = 2 := by decide
          have hm : tyArg t 1 ∈ tyArgs t := tyArg_mem (by omega)
          have hrow : vHasRow (vRow args [tyArg t 1]).1 [tyArg t 1] = true := by
            generalize vRow args [tyArg t 1] = q at hbd
            match hq : q.1, hbd with
            | [], _ => simp [vHasRow]
            | [x], hbd => simp [vHasAll, hq] at hbd; simp [vHasRow, hbd]
            | x :: y :: l, hbd => simp [hq] at hbd
          obtain ⟨e1, e2, e3⟩ := ihr [tyArg t 1] (d + 1) (by simp only [tBads, Bool.or_false]; exact tBads_mem hbs hm) hok hrow hws
          simp [vNode, e1]
        · simp [vPar, hT, c1, c2] at hok
    · simp [vPar, hT] at hok
      obtain ⟨rfl, hok⟩ := hok
      obtain rfl := hN (by decide)
      obtain rfl := hP (by decide)
      obtain rfl := hS (by decide)
      simp [vPar, hT] at h ⊢
      have hbd := vHas_body h
      simp [vBody] at hbd
      have ha : arity 13 = 2 := by decide
      have e1 := ihm (tyArgs t) (d + 1) hbs (by omega) hok hbd.1.2 hws
      simp [vNode, e1]
theorem row_only2 : ∀ (l : List Nd) (ts : List Ty) (d : Int), tBads ts = false → (vRow l ts).2 = true → vHasRow (vRow l ts).1 ts = true → wrongs l d = 0 → vNodes (vRow l ts).1 = l ∧ (vRow l ts).1.length = l.length ∧ l.length = ts.length
  | [], [], _, _, _, _, _ => by simp [vRow, vNodes]
  | [], _ :: _, _, _, h, _, _ => by simp [vRow] at h
  | _ :: _, [], _, _, h, _, _ => by simp [vRow] at h
  | x :: l, t :: ts, d, hb, hok, h, hw => by
    simp only [tBads, Bool.or_eq_false_iff] at hb
    obtain ⟨o1, o2, o3⟩ := row_ok hok
    obtain ⟨w1, w2⟩ := wrongs_two hw
    rw [o3] at h ⊢
    simp only [vHasRow, Bool.and_eq_true] at h
    have h1 := par_only2 x t d hb.1 o1 h.1 w1
    have h2 := row_only2 l ts d hb.2 o2 h.2 w2
    simp [vNodes, h1, h2]
theorem parAll_only2 : ∀ (l : List Nd) (t : Ty) (d : Int), tBad t = false → (vParAll l t).2 = true → vHasAll (vParAll l t).1 t = true → wrongs l d = 0 → vNodes (vParAll l t).1 = l
  | [], _, _, _, _, _, _ => by simp [vParAll, vNodes]
  | x :: l, t, d, hb, hok, h, hw => by
    obtain ⟨w1, w2⟩ := wrongs_two hw
    simp only [vParAll, Bool.and_eq_true] at hok
    simp only [vParAll, vHasAll, Bool.and_eq_true] at h
    have h1 := par_only2 x t d hb hok.1 h.1 w1
    have h2 := parAll_only2 l t d hb hok.2 h.2 w2
    simp [vParAll, vNodes, h1, h2]
theorem parMap_only2 : ∀ (l : List Nd) (ts : List Ty) (d : Int), tBads ts = false → ts.length = 2 → (vParMap l ts).2 = true → vHasAll (vParMap l ts).1 (.mk 11 ts) = true → wrongs l d = 0 → vElts (vParMap l ts).1 = l
  | [], _, _, _, _, _, _, _ => by simp [vParMap, vElts]
  | .mk kind N P S xs :: l, ts, d, hb, h2l, hok, h, hw => by
    obtain ⟨w1, w2⟩ := wrongs_two hw
    obtain ⟨hw1, hws⟩ := wrong_eq w1
    obtain ⟨_, hkd, hN, hP, hS, hA, _, _, _⟩ := wrong1_eq hw1
    simp only [vParMap, Bool.and_eq_true, decide_eq_true_eq] at hok
    obtain ⟨⟨ho1, rfl, rfl⟩, ho2⟩ := hok
    obtain rfl := hN (by decide)
    obtain rfl := hS (by decide)
    simp only [vParMap, vHasAll, Bool.and_eq_true] at h
    have hbd := vHas_body h.1
    simp [vBody, tyArgs] at hbd
    have h1 := row_only2 xs ts (d + 1) hb ho1 hbd.2 hws
    have h2 := parMap_only2 l ts d hb h2l ho2 h.2 w2
    simp [vParMap, vElts, h1, h2]
end


mutual
theorem par_pk : ∀ (n : Nd) (t : Ty), (vPar n t).2 = true → vPk (vPar n t).1 = true
  | .mk kind N P S args, t, h => by
    have ihr := row_pk args
    have iha := parAll_pk args
    have ihm := parMap_pk args
    by_cases h1 : tyT t = 1
    · simp [vPar, h1, val0, vPk, vPks]
    by_cases h2 : tyT t = 2
    · simp [vPar, h2, val0, vPk, vPks]
    by_cases h3 : tyT t = 3 ∨ tyT t = 4 ∨ tyT t = 5 ∨ tyT t = 7
    · rcases h3 with h3 | h3 | h3 | h3 <;> simp [vPar, h3, val0, vPk, vPks]
    by_cases h6 : tyT t = 6
    · simp [vPar, h6, val0, vPk, vPks]
    by_cases h9 : tyT t = 9
    · by_cases c1 : kind = 2 ∧ P = 27
      · simp [vPar, h9, c1, val0, vPk, vPks]
      · by_cases c2 : kind = 2 ∧ P = 26
        · simp [vPar, h9, c2] at h ⊢
          simp [vPk, ihr _ h]
        · simp [vPar, h9, c1, c2] at h
    by_cases h11 : tyT t = 11
    · by_cases c1 : kind = 2 ∧ P = 23
      · simp [vPar, h11, c1] at h ⊢
        simp [vPk, ihr _ h]
      · simp [vPar, h11, c1] at h
    by_cases h12 : tyT t = 12
    · by_cases c1 : kind = 2 ∧ P = 24
      · simp [vPar, h12, c1] at h ⊢
        simp [vPk, ihr _ h]
      · by_cases c2 : kind = 2 ∧ P = 25
        · simp [vPar, h12, c2] at h ⊢
          simp [vPk, ihr _ h]
        · simp [vPar, h12, c1, c2] at h
    by_cases h10 : tyT t = 10
    · simp [vPar, h10] at h ⊢
      simp [vPk, iha _ h.2]
    by_cases h13 : tyT t = 13
    · simp [vPar, h13] at h ⊢
      simp [vPk, ihm _ h.2]
    simp only [not_or] at h3
    simp [vPar, h1, h2, h3, h6, h9, h10, h11, h12, h13] at h
theorem row_pk : ∀ (l : List Nd) (ts : List Ty), (vRow l ts).2 = true → vPks (vRow l ts).1 = true
  | [], [], _ => by simp [vRow, vPks]
  | [], _ :: _, h => by simp [vRow] at h
  | _ :: _, [], h => by simp [vRow] at h
  | x :: l, t :: ts, h => by
    obtain ⟨o1, o2, o3⟩ := row_ok h
    rw [o3]
    simp [vPks, par_pk x t o1, row_pk l ts o2]
theorem parAll_pk : ∀ (l : List Nd) (t : Ty), (vParAll l t).2 = true → vPks (vParAll l t).1 = true
  | [], _, _ => by simp [vParAll, vPks]
  | x :: l, t, h => by
    simp only [vParAll, Bool.and_eq_true] at h
    simp [vParAll, vPks, par_pk x t h.1, parAll_pk l t h.2]
theorem parMap_pk : ∀ (l : List Nd) (ts : List Ty), (vParMap l ts).2 = true → vPks (vParMap l ts).1 = true
  | [], _, _ => by simp [vParMap, vPks]
  | .mk kind N P S xs :: l, ts, h => by
    simp only [vParMap, Bool.and_eq_true] at h
    simp [vParMap, vPks, vPk, row_pk xs ts h.1.1, parMap_pk l ts h.2]
end

-- guess
/-- The number that is told. -/
def gN (T N P : Int) : Int := if T = 2 then IntKind.i64.wrap (22 - P) else if T = 12 then IntKind.i64.wrap (P - 24) else N
/-- The type of the i-th that is in it. -/
def gKid (T vn : Int) (ts : List Ty) (i : Nat) : Ty :=
  if T = 9 ∨ T = 10 then ts.getD 0 ty0
  else if T = 13 then .mk 11 ts
  else if T = 11 then ts.getD i ty0
  else ts.getD vn.toNat ty0
/-- So many can be in it. -/
def gOk (T vn : Int) (m : Nat) : Bool := decide (m = 0 ∨ T = 9 ∨ T = 10 ∨ T = 13 ∨ T = 11 ∧ m ≤ 2 ∨ T = 12 ∧ (vn = 0 ∨ vn = 1))
mutual
def gGuess : Nd → Ty → Vl
  | .mk _ N P S args, t => if gOk (tyT t) (gN (tyT t) N P) args.length = true then .mk (tyT t) (gN (tyT t) N P) 0 S (gRow args (tyT t) (gN (tyT t) N P) (tyArgs t) 0) [] [] else vl0
def gRow : List Nd → Int → Int → List Ty → Nat → List Vl
  | [], _, _, _, _ => []
  | x :: l, T, vn, ts, i => gGuess x (gKid T vn ts i) :: gRow l T vn ts (i + 1)
end
theorem gRow_len : ∀ (l : List Nd) (T vn : Int) (ts : List Ty) (i : Nat), (gRow l T vn ts i).length = l.length
  | [], _, _, _, _ => by simp [gRow]
  | x :: l, T, vn, ts, i => by simp [gRow, gRow_len l T vn ts (i + 1)]
theorem gRow_snoc : ∀ (l : List Nd) (T vn : Int) (ts : List Ty) (i j : Nat) (x : Nd), l[j]? = some x → gRow (l.take (j + 1)) T vn ts i = gRow (l.take j) T vn ts i ++ [gGuess x (gKid T vn ts (i + j))]
  | [], _, _, _, _, j, x, h => by simp at h
  | y :: l, T, vn, ts, i, 0, x, h => by
    simp at h; subst h; simp [gRow]
  | y :: l, T, vn, ts, i, j + 1, x, h => by
    have ih := gRow_snoc l T vn ts (i + 1) j x (by simpa using h)
    simp only [List.take_succ_cons, gRow, ih, List.cons_append]
    rw [show i + 1 + j = i + (j + 1) from by omega]
theorem gKid_bad {t : Ty} {vn : Int} {m i : Nat} (hb : tBad t = false) (hok : gOk (tyT t) vn m = true) (hi : i < m) : tBad (gKid (tyT t) vn (tyArgs t) i) = false := by
  obtain ⟨har, hbs⟩ := tBad_args hb
  have hm : ∀ j, j < (tyArgs t).length → tBad ((tyArgs t).getD j ty0) = false := fun j hj => tBads_mem hbs (tyArg_mem hj)
  have a9 : arity 9 = 1 := by decide
  have a10 : arity 10 = 1 := by decide
  have a11 : arity 11 = 2 := by decide
  have a12 : arity 12 = 2 := by decide
  have a13 : arity 13 = 2 := by decide
  simp only [gOk, decide_eq_true_eq] at hok
  unfold gKid
  rcases hok with h | h | h | h | h | h
  · omega
  · rw [h] at har; rw [if_pos (.inl h)]; exact hm 0 (by omega)
  · rw [h] at har; rw [if_pos (.inr h)]; exact hm 0 (by omega)
  · rw [h] at har
    rw [if_neg (by omega), if_pos h]
    simp only [tBad, hbs, Bool.or_false, decide_eq_false_iff_not, Decidable.not_not]
    omega
  · rw [h.1] at har
    rw [if_neg (by omega), if_neg (by omega), if_pos h.1]
    exact hm i (by omega)
  · rw [h.1] at har
    rw [if_neg (by omega), if_neg (by omega), if_neg (by omega)]
    have e2 : (tyArgs t).length = 2 := by omega
    rcases h.2 with hv | hv <;> rw [hv] <;> exact hm _ (by rw [e2]; decide)
/-- Each is of its type. -/
def gHas (T vn : Int) (ts : List Ty) : List Vl → Nat → Bool
  | [], _ => true
  | x :: l, i => vHas x (gKid T vn ts i) && gHas T vn ts l (i + 1)
theorem gHas_all (T vn : Int) (ts : List Ty) (u : Ty) : ∀ (l : List Vl) (i : Nat), (∀ j, gKid T vn ts j = u) → vHasAll l u = true → gHas T vn ts l i = true
  | [], _, _, _ => rfl
  | x :: l, i, hu, h => by
    simp only [vHasAll, Bool.and_eq_true] at h
    simp only [gHas, Bool.and_eq_true]
    exact ⟨by rw [hu]; exact h.1, gHas_all T vn ts u l (i + 1) hu h.2⟩
theorem gHas_body {T vn a : Int} {l : List Vl} {types : List Ty} {t : Ty} (ht : tyT t = T) (hb : tBad t = false) (h : vBody T vn a l types t = true) (hk : T = 9 ∨ T = 10 ∨ T = 11 ∨ T = 12 ∨ T = 13) : gHas T vn (tyArgs t) l 0 = true ∧ gOk T vn l.length = true := by
  obtain ⟨har, hbs⟩ := tBad_args hb
  rw [ht] at har
  rcases hk with rfl | rfl | rfl | rfl | rfl
  · simp [vBody] at h
    exact ⟨gHas_all _ _ _ (tyArg t 0) _ _ (fun j => by simp [gKid, tyArg]) h.2, by simp [gOk]⟩
  · simp [vBody] at h
    exact ⟨gHas_all _ _ _ (tyArg t 0) _ _ (fun j => by simp [gKid, tyArg]) h.2, by simp [gOk]⟩
  · simp [vBody] at h
    have a11 : arity 11 = 2 := by decide
    obtain ⟨y, z, u, w, rfl, e2, e3, e4⟩ := row_two h.1.2 (by omega) h.2
    rw [e2]
    exact ⟨by simp [gHas, gKid, e3, e4], by simp [gOk]⟩
  · simp [vBody] at h
    refine ⟨gHas_all _ _ _ (tyArg t vn.toNat) _ _ (fun j => by simp [gKid, tyArg]) h.2, ?_⟩
    simp only [gOk, decide_eq_true_eq]
    exact .inr (.inr (.inr (.inr (.inr ⟨by trivial, by omega⟩))))
  · simp [vBody] at h
    exact ⟨gHas_all _ _ _ (.mk 11 (tyArgs t)) _ _ (fun j => by simp [gKid]) h.1.2, by simp [gOk]⟩
mutual
theorem gue_pk : ∀ (n : Nd) (t : Ty), tBad t = false → vHas (gGuess n t) t = true → vPk (gGuess n t) = true
  | .mk kind N P S args, t, hb, h => by
    have ih := gues_pk args
    by_cases hok : gOk (tyT t) (gN (tyT t) N P) args.length = true
    · simp only [gGuess, if_pos hok] at h ⊢
      have hbd := vHas_body h
      have hpl := (vHas_head h).2.1
      have hT : tyT t ≠ 8 ∧ tyT t ≠ 14 ∧ tyT t ≠ 15 := by
        refine ⟨?_, ?_, ?_⟩
        · intro e; rw [e] at hpl; simp [vPlain] at hpl
        · intro e; rw [e] at hpl; simp [vPlain] at hpl
        · intro e; rw [e] at hbd hok; simp [vBody, gRow_len] at hbd; simp [gOk, hbd] at hok
      have hrow : vPks (gRow args (tyT t) (gN (tyT t) N P) (tyArgs t) 0) = true := by
        by_cases hk : tyT t = 9 ∨ tyT t = 10 ∨ tyT t = 11 ∨ tyT t = 12 ∨ tyT t = 13
        · have hg := (gHas_body rfl hb hbd hk).1
          exact ih _ _ _ _ (fun j hj => gKid_bad hb hok (by omega)) hg
        · have h0 : args = [] := by
            simp only [gOk, decide_eq_true_eq] at hok
            exact List.length_eq_zero_iff.1 (by omega)
          subst h0
          simp [gRow, vPks]
      simp only [vPk, hrow, Bool.and_true, decide_eq_true_eq]
      exact hT
    · simp only [gGuess, if_neg hok] at h ⊢
      decide
theorem gues_pk : ∀ (l : List Nd) (T vn : Int) (ts : List Ty) (i : Nat), (∀ j, j < l.length → tBad (gKid T vn ts (i + j)) = false) → gHas T vn ts (gRow l T vn ts i) i = true → vPks (gRow l T vn ts i) = true
  | [], _, _, _, _, _, _ => by simp [gRow, vPks]
  | x :: l, T, vn, ts, i, hb, h => by
    simp only [gRow, gHas, Bool.and_eq_true] at h
    have h1 := gue_pk x _ (hb 0 (by simp)) h.1
    have h2 := gues_pk l T vn ts (i + 1) (fun j hj => by have := hb (j + 1) (by simpa using hj); rwa [show i + 1 + j = i + (j + 1) from by omega]) h.2
    rw [Nat.add_zero] at h1
    simp only [gRow, vPks, h1, h2, Bool.and_self]
end
theorem guess_28 (x : Nd) (ts : List Ty) : gGuess (set28 x) (.mk 11 ts) = gGuess x (.mk 11 ts) := by
  obtain ⟨kind, N, P, S, args⟩ := x
  simp [gGuess, set28, gN, tyT]
theorem vElts_len : ∀ l : List Vl, (vElts l).length = l.length
  | [] => rfl
  | .mk .. :: l => by simp only [vElts, List.length_cons, vElts_len l]
mutual
theorem guess_back : ∀ (v : Vl) (t : Ty), vPk v = true → tBad t = false → vHas v t = true → gGuess (vNode v) t = v
  | .mk k n a s args types code, t, hp, hb, h => by
    have hk := (vHas_head h).1
    have hpn := (vPk_parts hp).1
    have hps := (vPk_parts hp).2
    obtain ⟨rfl, rfl, rfl, hs⟩ := vHas_parts h hpn
    have hbd := vHas_body h
    obtain ⟨har, hbs⟩ := tBad_args hb
    rw [← hk] at har
    have hrg := arity_rng har
    have ihr := grow_back args
    have ihe := gelts_back args
    have hkd := @gHas_body k n 0 args [] t hk.symm hb hbd
    have hgb : ∀ j, gOk k n args.length = true → j < args.length → tBad (gKid k n (tyArgs t) j) = false := fun j h1 h2 => by rw [hk] at h1 ⊢; exact gKid_bad hb h1 h2
    rcases (by omega : k = 1 ∨ k = 2 ∨ k = 3 ∨ k = 4 ∨ k = 5 ∨ k = 6 ∨ k = 7 ∨ k = 9 ∨ k = 10 ∨ k = 11 ∨ k = 12 ∨ k = 13) with rfl | rfl | rfl | rfl | rfl | rfl | rfl | rfl | rfl | rfl | rfl | rfl
    · obtain rfl := hs (by decide)
      simp [vBody] at hbd
      obtain ⟨rfl, rfl⟩ := hbd
      simp [vNode, gGuess, ← hk, gOk, gN, gRow]
    · obtain rfl := hs (by decide)
      simp [vBody] at hbd
      obtain ⟨h1, h2, rfl⟩ := hbd
      rcases (by omega : n = 0 ∨ n = 1) with rfl | rfl <;> simp [vNode, gGuess, ← hk, gOk, gN, gRow] <;> decide
    · obtain rfl := hs (by decide)
      simp [vBody] at hbd
      obtain ⟨h1, h2, rfl⟩ := hbd
      simp [vNode, gGuess, ← hk, gOk, gN, gRow]
    · obtain rfl := hs (by decide)
      simp [vBody] at hbd
      obtain ⟨h1, h2, rfl⟩ := hbd
      simp [vNode, gGuess, ← hk, gOk, gN, gRow]
    · obtain rfl := hs (by decide)
      simp [vBody] at hbd
      obtain ⟨h1, h2, rfl⟩ := hbd
      simp [vNode, gGuess, ← hk, gOk, gN, gRow]
    · simp [vBody] at hbd
      obtain ⟨rfl, rfl⟩ := hbd
      simp [vNode, gGuess, ← hk, gOk, gN, gRow]
    · obtain rfl := hs (by decide)
      simp [vBody] at hbd
      obtain ⟨h1, h2, rfl⟩ := hbd
      simp [vNode, gGuess, ← hk, gOk, gN, gRow]
    · obtain rfl := hs (by decide)
      obtain ⟨g1, g2⟩ := hkd (by decide)
      simp [vBody] at hbd
      obtain ⟨⟨rfl, h2⟩, h3⟩ := hbd
      have e := ihr 9 0 (tyArgs t) 0 hps (fun j hj => by rw [Nat.zero_add]; exact hgb j g2 hj) g1
      simp [vNode, gGuess, ← hk, gN, e, g2, Go.Proofs.vNodes_len]
    · obtain rfl := hs (by decide)
      obtain ⟨g1, g2⟩ := hkd (by decide)
      simp [vBody] at hbd
      obtain ⟨⟨rfl, h2⟩, h3⟩ := hbd
      have e := ihr 10 0 (tyArgs t) 0 hps (fun j hj => by rw [Nat.zero_add]; exact hgb j g2 hj) g1
      simp [vNode, gGuess, ← hk, gN, e, g2, Go.Proofs.vNodes_len]
    · obtain rfl := hs (by decide)
      obtain ⟨g1, g2⟩ := hkd (by decide)
      simp [vBody] at hbd
      obtain ⟨⟨rfl, h2⟩, h3⟩ := hbd
      have e := ihr 11 0 (tyArgs t) 0 hps (fun j hj => by rw [Nat.zero_add]; exact hgb j g2 hj) g1
      simp [vNode, gGuess, ← hk, gN, e, g2, Go.Proofs.vNodes_len]
    · obtain rfl := hs (by decide)
      obtain ⟨g1, g2⟩ := hkd (by decide)
      simp [vBody] at hbd
      obtain ⟨⟨h1, h2, h3⟩, h4⟩ := hbd
      have e := ihr 12 n (tyArgs t) 0 hps (fun j hj => by rw [Nat.zero_add]; exact hgb j g2 hj) g1
      have ew : IntKind.i64.wrap (24 + n - 24) = n := by rw [w64 (by omega) (by omega)]; omega
      simp [vNode, gGuess, ← hk, gN, ew, e, g2, Go.Proofs.vNodes_len]
    · obtain rfl := hs (by decide)
      obtain ⟨g1, g2⟩ := hkd (by decide)
      simp [vBody] at hbd
      obtain ⟨⟨⟨rfl, h2⟩, h3⟩, h4⟩ := hbd
      have ha : arity 13 = 2 := by decide
      have ht11 : tBad (.mk 11 (tyArgs t)) = false := by
        have ha1 : arity 11 = 2 := by decide
        simp only [tBad, hbs, Bool.or_false, decide_eq_false_iff_not, Decidable.not_not]; omega
      have e := ihe 0 (tyArgs t) 0 hps ht11 h3
      have el : (vElts args).length = args.length := vElts_len args
      simp [vNode, gGuess, ← hk, gN, e, el, g2]
theorem grow_back : ∀ (l : List Vl) (T vn : Int) (ts : List Ty) (i : Nat), vPks l = true → (∀ j, j < l.length → tBad (gKid T vn ts (i + j)) = false) → gHas T vn ts l i = true → gRow (vNodes l) T vn ts i = l
  | [], _, _, _, _, _, _, _ => by simp [vNodes, gRow]
  | x :: l, T, vn, ts, i, hp, hb, h => by
    simp only [vPks, Bool.and_eq_true] at hp
    simp only [gHas, Bool.and_eq_true] at h
    have h1 := guess_back x _ hp.1 (hb 0 (by simp)) h.1
    have h2 := grow_back l T vn ts (i + 1) hp.2 (fun j hj => by have := hb (j + 1) (by simpa using hj); rwa [show i + 1 + j = i + (j + 1) from by omega]) h.2
    simp only [vNodes, gRow, h2]
    rw [Nat.add_zero] at h1; rw [h1]
theorem gelts_back : ∀ (l : List Vl) (vn : Int) (ts : List Ty) (i : Nat), vPks l = true → tBad (.mk 11 ts) = false → vHasAll l (.mk 11 ts) = true → gRow (vElts l) 13 vn ts i = l
  | [], _, _, _, _, _, _ => by simp [vElts, gRow]
  | .mk k n a s args types code :: l, vn, ts, i, hp, hb, h => by
    simp only [vPks, Bool.and_eq_true] at hp
    simp only [vHasAll, Bool.and_eq_true] at h
    have hk := (vHas_head h.1).1
    simp only [tyT] at hk
    have h1 := guess_back (.mk k n a s args types code) (.mk 11 ts) hp.1 hb h.1
    subst hk
    have h2 := gelts_back l vn ts (i + 1) hp.2 hb h.2
    rw [← guess_28] at h1
    simp only [vNode, set28] at h1
    simp at h1
    simp [vElts, gRow, gKid, h2, h1]
end
/-- Parse, as ParseValue of touchstoneref says it. -/
theorem tPar_guess {t : Ty} {n : Nd} (hg : tGood t = true) (hn : tGoodN n = 0) (hb : tBad t = false) : tPar t n = if vHas (gGuess n t) t = true ∧ ndSame (rNode (gGuess n t)) n = true then (gGuess n t, 0) else (vl0, 1) := by
  unfold tPar
  by_cases h : (vPar n t).2 = true ∧ vHas (vPar n t).1 t = true
  · rw [if_pos ⟨hg, hn, h.1, h.2⟩]
    have e1 := par_only2 n t 1 hb h.1 h.2 (tGoodN_zero.1 hn).1
    have e2 := guess_back _ t (par_pk n t h.1) hb h.2
    rw [e1] at e2
    rw [e2, if_pos ⟨h.2, (ndSame_iff _ _).2 (by rw [rNode_has _ t hb h.2]; exact e1)⟩]
  · rw [if_neg (fun x => h ⟨x.2.2.1, x.2.2.2⟩)]
    rw [if_neg]
    rintro ⟨h1, h2⟩
    have h2 := (ndSame_iff _ _).1 h2
    have e1 := rNode_has _ t hb h1
    rw [h2] at e1
    have e2 := par_back2 _ t (gue_pk n t hb h1) hb h1
    rw [← e1] at e2
    exact h (by rw [e2]; exact ⟨rfl, h1⟩)
end Go.Abs
