/- What guess of touchstoneref answers. Nodes with depths, in a row, and what the first of them that is wrong is. Numbers as bytes, read from the front: what they come to, how they end. What the functions In, Abs, Add, Sub and Ediv of package touchstoneref answer: what num's answer. What numberText and numberOf of touchstoneref answer. -/
import Derived.Test.YtcinhjfonmjneaaVGue
import Derived.Test.YtcinhjfonmjneaaVal8
import Derived.Test.YtcinhjfonmjneaaNum1
import Derived.Test.YtcinhjfonmjneaaLibD
import Derived.Test.YtcinhjfonmjneaaTree4
-- WIDE
set_option linter.unusedVariables false
set_option linter.unusedSimpArgs false
namespace Go.Proofs
open Go.Abs
theorem grow_nil (T vn : Int) (ts : List Ty) (i : Nat) : gRow [] T vn ts i = [] := by unfold gRow; rfl
theorem gg_yes {T : Int} {ts : List Ty} {kind N P : Int} {S : List UInt8} {args : List Nd} (h : gOk T (gN T N P) args.length = true) : gGuess (.mk kind N P S args) (.mk T ts) = .mk T (gN T N P) 0 S (gRow args T (gN T N P) ts 0) [] [] := by
  unfold gGuess; exact if_pos h
theorem gg_no {T : Int} {ts : List Ty} {kind N P : Int} {S : List UInt8} {args : List Nd} (h : gOk T (gN T N P) args.length = false) : gGuess (.mk kind N P S args) (.mk T ts) = .mk 0 0 0 [] [] [] [] := by
  unfold gGuess; exact if_neg (by show ¬ gOk T (gN T N P) args.length = true; rw [h]; decide)
theorem gN_2 (N P : Int) : gN 2 N P = IntKind.i64.wrap (22 - P) := rfl
theorem gN_12 (N P : Int) : gN 12 N P = IntKind.i64.wrap (P - 24) := rfl
theorem gN_o {T : Int} (N P : Int) (h : T ≠ 2 ∧ T ≠ 12) : gN T N P = N := by unfold gN; rw [if_neg h.1, if_neg h.2]
attribute [local irreducible] AK AOps QCalls ECalls gGuess gRow gN gKid

set_option maxHeartbeats 0 in
theorem guess_calls : ∀ (n : Nd) (t : Ty), tBad t = false → ndSize n ≤ 1048577 → QCalls Try.prog Try.X 124 [encTy t, encNd n] (encVl (gGuess n t))
  | .mk kind N P S args, .mk T ts, hb, hn => by
    simp only [ndSize] at hn
    have hl1 := ndsSize_len args
    have hrec : ∀ x ∈ args, ∀ u, tBad u = false → QCalls Try.prog Try.X 124 [encTy u, encNd x] (encVl (gGuess x u)) := fun x hx u h1 => guess_calls x u h1 (by have := ndsSize_mem hx; omega)
    obtain ⟨har, hbs⟩ := tBad_args hb
    simp only [tyT, tyArgs] at har hbs
    by_cases c : T = 2
    · subst c
      rcases get_or args 0 (Nat.zero_le _) with ⟨x, hx, hm⟩ | he
      · have hc := nds_lt hx
        have hl := lt_of_get hx
        rw [gg_no (T := 2) (ts := ts) (by simp only [gOk, decide_eq_false_iff_not]; omega)]
        clear hrec
        obtain ⟨xk, xn, xp, xs, xa⟩ := x
        refine QCalls.of Try.func124 rfl (fun args w => Try.call124 args w) (Nat.le_of_ble_eq_true rfl) [(0, .c (encTy (.mk 2 ts))), (1, .c (encNd (.mk kind N P S args)))] rfl fun β hβ => ?_; have hf := Try.func124
        repeat' (first | refine st ?_ | (refine AK.condS rfl (fun h => ?_) (fun h => ?_) <;> first | (cases h; done) | rw [h] | skip) | refine uQ hf rfl rfl ?_ | (refine uA rfl ?_ ?_ <;> (try (show (_ : Nat) * _ ≤ _; dsimp only))) | ((first | refine AOps.splitT rfl rfl rfl asm (fun h => ?_) | refine AOps.splitF rfl rfl rfl asm (fun h => ?_) | refine AOps.split rfl rfl rfl (fun h => ?_) (fun h => ?_)) <;> (fail_if_success (cases h; done)) <;> rw [h]))
        refine AK.loopE (α := Unit) (fun _ => True) (fun _ => 0) (fun _ => [(33, .c (.int .i64 (0 : Nat))), (32, .c (.int .i64 (encNds args).length)), (31, .c (.sl 5 (encNds args))), (2, .ptr 2 0), (3, .ptr 3 0), (4, .ptr 4 0), (5, .ptr 5 0)]) (fun _ => [(2, [.c (.int .i64 2), .c (.sl 2 (encTys ts))]), (3, [.c (.int .i64 kind), .c (.int .i64 N), .c (.int .i64 P), .c (.str S), .c (.sl 5 (encNds args))]), (4, [.c (.int .i64 0), .c (.int .i64 0), .c (.int .i64 0), .c (.str []), .own .exact 7 [], .own .exact 2 [], .own .exact 5 []]), (5, [.c (.int .i64 (2)), .c (.int .i64 (IntKind.i64.wrap (22 - P))), .c (.int .i64 0), .c (.str S), .own .exact 7 [], .own .exact 2 [], .own .exact 5 []])]) (fun _ => []) [2, 3, 4, 5] ()
          trivial ⟨.inl rfl, .inl rfl, .inl rfl, .inl rfl, .inl rfl, .inl rfl, .inl rfl, trivial⟩ ⟨rfl, rfl, rfl, rfl, trivial⟩ trivial rfl rfl rfl ?_
        intro _ _ _
        repeat' (first | refine st ?_ | (refine AK.condS rfl (fun h => ?_) (fun h => ?_) <;> first | (cases h; done) | rw [h] | skip) | refine uQ hf rfl rfl ?_ | refine uI rfl (0) rfl (nds_at hx) rfl ?_ | (refine uA rfl ?_ ?_ <;> (try (show (_ : Nat) * _ ≤ _; dsimp only))) | ((first | refine AOps.splitT rfl rfl rfl asm (fun h => ?_) | refine AOps.splitF rfl rfl rfl asm (fun h => ?_) | refine AOps.split rfl rfl rfl (fun h => ?_) (fun h => ?_)) <;> (fail_if_success (cases h; done)) <;> rw [h]))
        all_goals first | rfl | (show (_ : CV) = _; rw [gN_2]; rfl)
      · have hc := nds_end he
        obtain rfl : args = [] := List.length_eq_zero_iff.1 he.symm
        rw [gg_yes (T := 2) (ts := ts) (by simp [gOk]), grow_nil]
        clear hrec
        have hx := 0
        refine QCalls.of Try.func124 rfl (fun args w => Try.call124 args w) (Nat.le_of_ble_eq_true rfl) [(0, .c (encTy (.mk 2 ts))), (1, .c (encNd (.mk kind N P S [])))] rfl fun β hβ => ?_; have hf := Try.func124
        repeat' (first | refine st ?_ | (refine AK.condS rfl (fun h => ?_) (fun h => ?_) <;> first | (cases h; done) | rw [h] | skip) | refine uQ hf rfl rfl ?_ | (refine uA rfl ?_ ?_ <;> (try (show (_ : Nat) * _ ≤ _; dsimp only))) | ((first | refine AOps.splitT rfl rfl rfl asm (fun h => ?_) | refine AOps.splitF rfl rfl rfl asm (fun h => ?_) | refine AOps.split rfl rfl rfl (fun h => ?_) (fun h => ?_)) <;> (fail_if_success (cases h; done)) <;> rw [h]))
        refine AK.loopE (α := Unit) (fun _ => True) (fun _ => 0) (fun _ => [(33, .c (.int .i64 (0 : Nat))), (32, .c (.int .i64 (encNds []).length)), (31, .c (.sl 5 (encNds []))), (2, .ptr 2 0), (3, .ptr 3 0), (4, .ptr 4 0), (5, .ptr 5 0)]) (fun _ => [(2, [.c (.int .i64 2), .c (.sl 2 (encTys ts))]), (3, [.c (.int .i64 kind), .c (.int .i64 N), .c (.int .i64 P), .c (.str S), .c (.sl 5 (encNds []))]), (4, [.c (.int .i64 0), .c (.int .i64 0), .c (.int .i64 0), .c (.str []), .own .exact 7 [], .own .exact 2 [], .own .exact 5 []]), (5, [.c (.int .i64 (2)), .c (.int .i64 (IntKind.i64.wrap (22 - P))), .c (.int .i64 0), .c (.str S), .own .exact 7 [], .own .exact 2 [], .own .exact 5 []])]) (fun _ => []) [2, 3, 4, 5] ()
          trivial ⟨.inl rfl, .inl rfl, .inl rfl, .inl rfl, .inl rfl, .inl rfl, .inl rfl, trivial⟩ ⟨rfl, rfl, rfl, rfl, trivial⟩ trivial rfl rfl rfl ?_
        intro _ _ _
        repeat' (first | refine st ?_ | (refine AK.condS rfl (fun h => ?_) (fun h => ?_) <;> first | (cases h; done) | rw [h] | skip) | refine uQ hf rfl rfl ?_ | (refine uA rfl ?_ ?_ <;> (try (show (_ : Nat) * _ ≤ _; dsimp only))) | ((first | refine AOps.splitT rfl rfl rfl asm (fun h => ?_) | refine AOps.splitF rfl rfl rfl asm (fun h => ?_) | refine AOps.split rfl rfl rfl (fun h => ?_) (fun h => ?_)) <;> (fail_if_success (cases h; done)) <;> rw [h]))
        all_goals first | rfl | (show (_ : CV) = _; rw [gN_2]; rfl)
    by_cases c : T = 9
    · subst c
      have a9 : arity 9 = 1 := by decide
      obtain ⟨u, rfl⟩ := tlen1 (show ts.length = 1 by omega)
      have hu : tBad u = false := tBads_mem hbs (by simp)
      have g1 : [u][0]? = some u := rfl
      obtain ⟨U, us⟩ := u
      rw [gg_yes (T := 9) (ts := [.mk U us]) (by simp [gOk]), gN_o N P (T := 9) (by decide)]
      refine QCalls.of Try.func124 rfl (fun args w => Try.call124 args w) (Nat.le_of_ble_eq_true rfl) [(0, .c (encTy (.mk 9 [.mk U us]))), (1, .c (encNd (.mk kind N P S args)))] rfl fun β hβ => ?_; have hf := Try.func124
      repeat' (first | refine st ?_ | (refine AK.condS rfl (fun h => ?_) (fun h => ?_) <;> first | (cases h; done) | rw [h] | skip) | refine uQ hf rfl rfl ?_ | (refine uA rfl ?_ ?_ <;> (try (show (_ : Nat) * _ ≤ _; dsimp only))) | ((first | refine AOps.splitT rfl rfl rfl asm (fun h => ?_) | refine AOps.splitF rfl rfl rfl asm (fun h => ?_) | refine AOps.split rfl rfl rfl (fun h => ?_) (fun h => ?_)) <;> (fail_if_success (cases h; done)) <;> rw [h]))
      refine AK.ren [(2, 2), (3, 3), (4, 4), (5, 5)] [(5004, (0, none))] (env' := [(33, .c (.int .i64 (0 : Nat))), (32, .c (.int .i64 (encNds args).length)), (31, .c (.sl 5 (encNds args))), (2, .ptr 2 0), (3, .ptr 3 0), (4, .ptr 4 0), (5, .ptr 5 0)])
        (bs' := [(2, [.c (.int .i64 9), .c (.sl 2 (encTys [.mk U us]))]), (3, [.c (.int .i64 kind), .c (.int .i64 N), .c (.int .i64 P), .c (.str S), .c (.sl 5 (encNds args))]), (4, [.c (.int .i64 0), .c (.int .i64 0), .c (.int .i64 0), .c (.str []), .own .exact 7 [], .own .exact 2 [], .own .exact 5 []]), (5, [.c (.int .i64 (9)), .c (.int .i64 (N)), .c (.int .i64 0), .c (.str S), .own (.tok 5004 0) 7 [], .own .exact 2 [], .own .exact 5 []])]) (ts' := [(5004, 0)]) (us' := [2, 3, 4, 5, 5004])
        ⟨⟨_, rfl, .inl rfl⟩, ⟨_, rfl, .inl rfl⟩, ⟨_, rfl, .inl rfl⟩, ⟨_, rfl, ⟨_, rfl, rfl⟩⟩, ⟨_, rfl, ⟨_, rfl, rfl⟩⟩, ⟨_, rfl, ⟨_, rfl, rfl⟩⟩, ⟨_, rfl, ⟨_, rfl, rfl⟩⟩, trivial⟩ ⟨⟨_, _, rfl, rfl, ⟨_, _, rfl, .inl rfl, ⟨_, _, rfl, .inl rfl, rfl⟩⟩⟩, ⟨_, _, rfl, rfl, ⟨_, _, rfl, .inl rfl, ⟨_, _, rfl, .inl rfl, ⟨_, _, rfl, .inl rfl, ⟨_, _, rfl, .inl rfl, ⟨_, _, rfl, .inl rfl, rfl⟩⟩⟩⟩⟩⟩, ⟨_, _, rfl, rfl, ⟨_, _, rfl, .inl rfl, ⟨_, _, rfl, .inl rfl, ⟨_, _, rfl, .inl rfl, ⟨_, _, rfl, .inl rfl, ⟨_, _, rfl, rfl, ⟨_, _, rfl, rfl, ⟨_, _, rfl, rfl, rfl⟩⟩⟩⟩⟩⟩⟩⟩, ⟨_, _, rfl, rfl, ⟨_, _, rfl, .inl rfl, ⟨_, _, rfl, .inl rfl, ⟨_, _, rfl, .inl rfl, ⟨_, _, rfl, .inl rfl, ⟨_, _, rfl, ⟨_, rfl, .inl ⟨rfl, _, rfl, .inr rfl⟩⟩, ⟨_, _, rfl, rfl, ⟨_, _, rfl, rfl, rfl⟩⟩⟩⟩⟩⟩⟩⟩, trivial⟩ rfl ?_
      refine AK.loopE (α := Nat) (fun i => i ≤ args.length ∧ True) (fun i => args.length - i) (fun i => [(33, .c (.int .i64 i)), (32, .c (.int .i64 (encNds args).length)), (31, .c (.sl 5 (encNds args))), (2, .ptr 2 0), (3, .ptr 3 0), (4, .ptr 4 0), (5, .ptr 5 0)]) (fun i => [(2, [.c (.int .i64 9), .c (.sl 2 (encTys [.mk U us]))]), (3, [.c (.int .i64 kind), .c (.int .i64 N), .c (.int .i64 P), .c (.str S), .c (.sl 5 (encNds args))]), (4, [.c (.int .i64 0), .c (.int .i64 0), .c (.int .i64 0), .c (.str []), .own .exact 7 [], .own .exact 2 [], .own .exact 5 []]), (5, [.c (.int .i64 (9)), .c (.int .i64 (N)), .c (.int .i64 0), .c (.str S), .own (.tok 5004 0) 7 (encVls (gRow (args.take i) 9 (N) [.mk U us] 0)), .own .exact 2 [], .own .exact 5 []])]) (fun _ => [(5004, 0)]) [2, 3, 4, 5, 5004] 0
        ⟨Nat.zero_le _, trivial⟩ ⟨.inl rfl, .inl rfl, .inl rfl, .inl rfl, .inl rfl, .inl rfl, .inl rfl, trivial⟩ ⟨rfl, rfl, rfl, (by rw [List.take_zero, grow_nil]; rfl), trivial⟩ ⟨rfl, trivial⟩ rfl rfl rfl ?_
      rintro i ⟨hi, _⟩ ih
      rcases get_or args i hi with ⟨x, hx, hm⟩ | he
      rotate_left
      · have hc := nds_end he
        subst he
        rw [List.take_length]
        clear ih
        repeat' (first | refine st ?_ | (refine AK.condS rfl (fun h => ?_) (fun h => ?_) <;> first | (cases h; done) | rw [h] | skip) | refine uQ hf rfl rfl ?_ | (refine uA rfl ?_ ?_ <;> (try (show (_ : Nat) * _ ≤ _; dsimp only))) | ((first | refine AOps.splitT rfl rfl rfl asm (fun h => ?_) | refine AOps.splitF rfl rfl rfl asm (fun h => ?_) | refine AOps.split rfl rfl rfl (fun h => ?_) (fun h => ?_)) <;> (fail_if_success (cases h; done)) <;> rw [h]))
        all_goals rfl
      have hc := nds_lt hx
      have h2 := lt_of_get hx
      have hq := hrec x hm (.mk U us) hu
      have hkid : gKid 9 N [.mk U us] i = .mk U us := by simp [gKid]
      have hsn := gRow_snoc args 9 (N) [.mk U us] 0 i x hx
      rw [Nat.zero_add, hkid] at hsn
      rcases hy : gGuess x (.mk U us) with ⟨y1, y2, y3, y4, y5, y6, y7⟩
      rw [hy] at hq hsn
      have hl9 := gRow_len (args.take i) 9 (N) [.mk U us] 0
      rw [List.length_take] at hl9
      generalize gRow (args.take i) 9 (N) [.mk U us] 0 = acc at hsn hl9 ⊢
      obtain ⟨xk, xn, xp, xs, xa⟩ := x
      repeat' (first | refine st ?_ | (refine AK.condS rfl (fun h => ?_) (fun h => ?_) <;> first | (cases h; done) | rw [h] | skip) | refine uQ hf rfl rfl ?_ | refine uI rfl (i) rfl (nds_at hx) rfl ?_ | refine uI rfl (0) rfl (tys_at g1) rfl ?_ | refine uC rfl hq ?_ | (refine uA rfl ?_ ?_ <;> (try (show (_ : Nat) * _ ≤ _; dsimp only))) | ((first | refine AOps.splitT rfl rfl rfl asm (fun h => ?_) | refine AOps.splitF rfl rfl rfl asm (fun h => ?_) | refine AOps.split rfl rfl rfl (fun h => ?_) (fun h => ?_)) <;> (fail_if_success (cases h; done)) <;> rw [h]))
      · have h1 := encVls_length acc
        simp only [List.length_cons, List.length_nil]
        omega
      · have hap : encVls acc ++ [encVl (.mk y1 y2 y3 y4 y5 y6 y7)] = encVls (gRow (args.take (i + 1)) 9 (N) [.mk U us] 0) := by rw [hsn]; exact (encVls_append acc [_]).symm
        refine AK.ren [(2, 2), (3, 3), (4, 4), (5, 5)] [(5004, (0, some 5004))] (env' := [(33, .c (.int .i64 ((i + 1 : Nat) : Int))), (32, .c (.int .i64 (encNds args).length)), (31, .c (.sl 5 (encNds args))), (2, .ptr 2 0), (3, .ptr 3 0), (4, .ptr 4 0), (5, .ptr 5 0)])
          (bs' := [(2, [.c (.int .i64 9), .c (.sl 2 (encTys [.mk U us]))]), (3, [.c (.int .i64 kind), .c (.int .i64 N), .c (.int .i64 P), .c (.str S), .c (.sl 5 (encNds args))]), (4, [.c (.int .i64 0), .c (.int .i64 0), .c (.int .i64 0), .c (.str []), .own .exact 7 [], .own .exact 2 [], .own .exact 5 []]), (5, [.c (.int .i64 (9)), .c (.int .i64 (N)), .c (.int .i64 0), .c (.str S), .own (.tok 5004 0) 7 (encVls (gRow (args.take (i + 1)) 9 (N) [.mk U us] 0)), .own .exact 2 [], .own .exact 5 []])]) (ts' := [(5004, 0)]) (us' := [2, 3, 4, 5, 5004])
          ⟨⟨_, rfl, .inl (succ64' (i := i) (by omega))⟩, ⟨_, rfl, .inl rfl⟩, ⟨_, rfl, .inl rfl⟩, ⟨_, rfl, ⟨_, rfl, rfl⟩⟩, ⟨_, rfl, ⟨_, rfl, rfl⟩⟩, ⟨_, rfl, ⟨_, rfl, rfl⟩⟩, ⟨_, rfl, ⟨_, rfl, rfl⟩⟩, trivial⟩ ⟨⟨_, _, rfl, rfl, ⟨_, _, rfl, .inl rfl, ⟨_, _, rfl, .inl rfl, rfl⟩⟩⟩, ⟨_, _, rfl, rfl, ⟨_, _, rfl, .inl rfl, ⟨_, _, rfl, .inl rfl, ⟨_, _, rfl, .inl rfl, ⟨_, _, rfl, .inl rfl, ⟨_, _, rfl, .inl rfl, rfl⟩⟩⟩⟩⟩⟩, ⟨_, _, rfl, rfl, ⟨_, _, rfl, .inl rfl, ⟨_, _, rfl, .inl rfl, ⟨_, _, rfl, .inl rfl, ⟨_, _, rfl, .inl rfl, ⟨_, _, rfl, rfl, ⟨_, _, rfl, rfl, ⟨_, _, rfl, rfl, rfl⟩⟩⟩⟩⟩⟩⟩⟩, ⟨_, _, rfl, rfl, ⟨_, _, rfl, .inl rfl, ⟨_, _, rfl, .inl rfl, ⟨_, _, rfl, .inl rfl, ⟨_, _, rfl, .inl rfl, ⟨_, _, rfl, ⟨_, rfl, .inr ⟨_, _, rfl, rfl, congrArg (AV.own (.tok 5004 1) 7) hap⟩⟩, ⟨_, _, rfl, rfl, ⟨_, _, rfl, rfl, rfl⟩⟩⟩⟩⟩⟩⟩⟩, trivial⟩ rfl ?_
        exact ih (i + 1) ⟨h2, trivial⟩ (by show args.length - (i + 1) < args.length - i; omega)
    by_cases c : T = 10
    · subst c
      have a9 : arity 10 = 1 := by decide
      obtain ⟨u, rfl⟩ := tlen1 (show ts.length = 1 by omega)
      have hu : tBad u = false := tBads_mem hbs (by simp)
      have g1 : [u][0]? = some u := rfl
      obtain ⟨U, us⟩ := u
      rw [gg_yes (T := 10) (ts := [.mk U us]) (by simp [gOk]), gN_o N P (T := 10) (by decide)]
      refine QCalls.of Try.func124 rfl (fun args w => Try.call124 args w) (Nat.le_of_ble_eq_true rfl) [(0, .c (encTy (.mk 10 [.mk U us]))), (1, .c (encNd (.mk kind N P S args)))] rfl fun β hβ => ?_; have hf := Try.func124
      repeat' (first | refine st ?_ | (refine AK.condS rfl (fun h => ?_) (fun h => ?_) <;> first | (cases h; done) | rw [h] | skip) | refine uQ hf rfl rfl ?_ | (refine uA rfl ?_ ?_ <;> (try (show (_ : Nat) * _ ≤ _; dsimp only))) | ((first | refine AOps.splitT rfl rfl rfl asm (fun h => ?_) | refine AOps.splitF rfl rfl rfl asm (fun h => ?_) | refine AOps.split rfl rfl rfl (fun h => ?_) (fun h => ?_)) <;> (fail_if_success (cases h; done)) <;> rw [h]))
      refine AK.ren [(2, 2), (3, 3), (4, 4), (5, 5)] [(5004, (0, none))] (env' := [(33, .c (.int .i64 (0 : Nat))), (32, .c (.int .i64 (encNds args).length)), (31, .c (.sl 5 (encNds args))), (2, .ptr 2 0), (3, .ptr 3 0), (4, .ptr 4 0), (5, .ptr 5 0)])
        (bs' := [(2, [.c (.int .i64 10), .c (.sl 2 (encTys [.mk U us]))]), (3, [.c (.int .i64 kind), .c (.int .i64 N), .c (.int .i64 P), .c (.str S), .c (.sl 5 (encNds args))]), (4, [.c (.int .i64 0), .c (.int .i64 0), .c (.int .i64 0), .c (.str []), .own .exact 7 [], .own .exact 2 [], .own .exact 5 []]), (5, [.c (.int .i64 (10)), .c (.int .i64 (N)), .c (.int .i64 0), .c (.str S), .own (.tok 5004 0) 7 [], .own .exact 2 [], .own .exact 5 []])]) (ts' := [(5004, 0)]) (us' := [2, 3, 4, 5, 5004])
        ⟨⟨_, rfl, .inl rfl⟩, ⟨_, rfl, .inl rfl⟩, ⟨_, rfl, .inl rfl⟩, ⟨_, rfl, ⟨_, rfl, rfl⟩⟩, ⟨_, rfl, ⟨_, rfl, rfl⟩⟩, ⟨_, rfl, ⟨_, rfl, rfl⟩⟩, ⟨_, rfl, ⟨_, rfl, rfl⟩⟩, trivial⟩ ⟨⟨_, _, rfl, rfl, ⟨_, _, rfl, .inl rfl, ⟨_, _, rfl, .inl rfl, rfl⟩⟩⟩, ⟨_, _, rfl, rfl, ⟨_, _, rfl, .inl rfl, ⟨_, _, rfl, .inl rfl, ⟨_, _, rfl, .inl rfl, ⟨_, _, rfl, .inl rfl, ⟨_, _, rfl, .inl rfl, rfl⟩⟩⟩⟩⟩⟩, ⟨_, _, rfl, rfl, ⟨_, _, rfl, .inl rfl, ⟨_, _, rfl, .inl rfl, ⟨_, _, rfl, .inl rfl, ⟨_, _, rfl, .inl rfl, ⟨_, _, rfl, rfl, ⟨_, _, rfl, rfl, ⟨_, _, rfl, rfl, rfl⟩⟩⟩⟩⟩⟩⟩⟩, ⟨_, _, rfl, rfl, ⟨_, _, rfl, .inl rfl, ⟨_, _, rfl, .inl rfl, ⟨_, _, rfl, .inl rfl, ⟨_, _, rfl, .inl rfl, ⟨_, _, rfl, ⟨_, rfl, .inl ⟨rfl, _, rfl, .inr rfl⟩⟩, ⟨_, _, rfl, rfl, ⟨_, _, rfl, rfl, rfl⟩⟩⟩⟩⟩⟩⟩⟩, trivial⟩ rfl ?_
      refine AK.loopE (α := Nat) (fun i => i ≤ args.length ∧ True) (fun i => args.length - i) (fun i => [(33, .c (.int .i64 i)), (32, .c (.int .i64 (encNds args).length)), (31, .c (.sl 5 (encNds args))), (2, .ptr 2 0), (3, .ptr 3 0), (4, .ptr 4 0), (5, .ptr 5 0)]) (fun i => [(2, [.c (.int .i64 10), .c (.sl 2 (encTys [.mk U us]))]), (3, [.c (.int .i64 kind), .c (.int .i64 N), .c (.int .i64 P), .c (.str S), .c (.sl 5 (encNds args))]), (4, [.c (.int .i64 0), .c (.int .i64 0), .c (.int .i64 0), .c (.str []), .own .exact 7 [], .own .exact 2 [], .own .exact 5 []]), (5, [.c (.int .i64 (10)), .c (.int .i64 (N)), .c (.int .i64 0), .c (.str S), .own (.tok 5004 0) 7 (encVls (gRow (args.take i) 10 (N) [.mk U us] 0)), .own .exact 2 [], .own .exact 5 []])]) (fun _ => [(5004, 0)]) [2, 3, 4, 5, 5004] 0
        ⟨Nat.zero_le _, trivial⟩ ⟨.inl rfl, .inl rfl, .inl rfl, .inl rfl, .inl rfl, .inl rfl, .inl rfl, trivial⟩ ⟨rfl, rfl, rfl, (by rw [List.take_zero, grow_nil]; rfl), trivial⟩ ⟨rfl, trivial⟩ rfl rfl rfl ?_
      rintro i ⟨hi, _⟩ ih
      rcases get_or args i hi with ⟨x, hx, hm⟩ | he
      rotate_left
      · have hc := nds_end he
        subst he
        rw [List.take_length]
        clear ih
        repeat' (first | refine st ?_ | (refine AK.condS rfl (fun h => ?_) (fun h => ?_) <;> first | (cases h; done) | rw [h] | skip) | refine uQ hf rfl rfl ?_ | (refine uA rfl ?_ ?_ <;> (try (show (_ : Nat) * _ ≤ _; dsimp only))) | ((first | refine AOps.splitT rfl rfl rfl asm (fun h => ?_) | refine AOps.splitF rfl rfl rfl asm (fun h => ?_) | refine AOps.split rfl rfl rfl (fun h => ?_) (fun h => ?_)) <;> (fail_if_success (cases h; done)) <;> rw [h]))
        all_goals rfl
      have hc := nds_lt hx
      have h2 := lt_of_get hx
      have hq := hrec x hm (.mk U us) hu
      have hkid : gKid 10 N [.mk U us] i = .mk U us := by simp [gKid]
      have hsn := gRow_snoc args 10 (N) [.mk U us] 0 i x hx
      rw [Nat.zero_add, hkid] at hsn
      rcases hy : gGuess x (.mk U us) with ⟨y1, y2, y3, y4, y5, y6, y7⟩
      rw [hy] at hq hsn
      have hl9 := gRow_len (args.take i) 10 (N) [.mk U us] 0
      rw [List.length_take] at hl9
      generalize gRow (args.take i) 10 (N) [.mk U us] 0 = acc at hsn hl9 ⊢
      obtain ⟨xk, xn, xp, xs, xa⟩ := x
      repeat' (first | refine st ?_ | (refine AK.condS rfl (fun h => ?_) (fun h => ?_) <;> first | (cases h; done) | rw [h] | skip) | refine uQ hf rfl rfl ?_ | refine uI rfl (i) rfl (nds_at hx) rfl ?_ | refine uI rfl (0) rfl (tys_at g1) rfl ?_ | refine uC rfl hq ?_ | (refine uA rfl ?_ ?_ <;> (try (show (_ : Nat) * _ ≤ _; dsimp only))) | ((first | refine AOps.splitT rfl rfl rfl asm (fun h => ?_) | refine AOps.splitF rfl rfl rfl asm (fun h => ?_) | refine AOps.split rfl rfl rfl (fun h => ?_) (fun h => ?_)) <;> (fail_if_success (cases h; done)) <;> rw [h]))
      · have h1 := encVls_length acc
        simp only [List.length_cons, List.length_nil]
        omega
      · have hap : encVls acc ++ [encVl (.mk y1 y2 y3 y4 y5 y6 y7)] = encVls (gRow (args.take (i + 1)) 10 (N) [.mk U us] 0) := by rw [hsn]; exact (encVls_append acc [_]).symm
        refine AK.ren [(2, 2), (3, 3), (4, 4), (5, 5)] [(5004, (0, some 5004))] (env' := [(33, .c (.int .i64 ((i + 1 : Nat) : Int))), (32, .c (.int .i64 (encNds args).length)), (31, .c (.sl 5 (encNds args))), (2, .ptr 2 0), (3, .ptr 3 0), (4, .ptr 4 0), (5, .ptr 5 0)])
          (bs' := [(2, [.c (.int .i64 10), .c (.sl 2 (encTys [.mk U us]))]), (3, [.c (.int .i64 kind), .c (.int .i64 N), .c (.int .i64 P), .c (.str S), .c (.sl 5 (encNds args))]), (4, [.c (.int .i64 0), .c (.int .i64 0), .c (.int .i64 0), .c (.str []), .own .exact 7 [], .own .exact 2 [], .own .exact 5 []]), (5, [.c (.int .i64 (10)), .c (.int .i64 (N)), .c (.int .i64 0), .c (.str S), .own (.tok 5004 0) 7 (encVls (gRow (args.take (i + 1)) 10 (N) [.mk U us] 0)), .own .exact 2 [], .own .exact 5 []])]) (ts' := [(5004, 0)]) (us' := [2, 3, 4, 5, 5004])
          ⟨⟨_, rfl, .inl (succ64' (i := i) (by omega))⟩, ⟨_, rfl, .inl rfl⟩, ⟨_, rfl, .inl rfl⟩, ⟨_, rfl, ⟨_, rfl, rfl⟩⟩, ⟨_, rfl, ⟨_, rfl, rfl⟩⟩, ⟨_, rfl, ⟨_, rfl, rfl⟩⟩, ⟨_, rfl, ⟨_, rfl, rfl⟩⟩, trivial⟩ ⟨⟨_, _, rfl, rfl, ⟨_, _, rfl, .inl rfl, ⟨_, _, rfl, .inl rfl, rfl⟩⟩⟩, ⟨_, _, rfl, rfl, ⟨_, _, rfl, .inl rfl, ⟨_, _, rfl, .inl rfl, ⟨_, _, rfl, .inl rfl, ⟨_, _, rfl, .inl rfl, ⟨_, _, rfl, .inl rfl, rfl⟩⟩⟩⟩⟩⟩, ⟨_, _, rfl, rfl, ⟨_, _, rfl, .inl rfl, ⟨_, _, rfl, .inl rfl, ⟨_, _, rfl, .inl rfl, ⟨_, _, rfl, .inl rfl, ⟨_, _, rfl, rfl, ⟨_, _, rfl, rfl, ⟨_, _, rfl, rfl, rfl⟩⟩⟩⟩⟩⟩⟩⟩, ⟨_, _, rfl, rfl, ⟨_, _, rfl, .inl rfl, ⟨_, _, rfl, .inl rfl, ⟨_, _, rfl, .inl rfl, ⟨_, _, rfl, .inl rfl, ⟨_, _, rfl, ⟨_, rfl, .inr ⟨_, _, rfl, rfl, congrArg (AV.own (.tok 5004 1) 7) hap⟩⟩, ⟨_, _, rfl, rfl, ⟨_, _, rfl, rfl, rfl⟩⟩⟩⟩⟩⟩⟩⟩, trivial⟩ rfl ?_
        exact ih (i + 1) ⟨h2, trivial⟩ (by show args.length - (i + 1) < args.length - i; omega)
    by_cases c : T = 13
    · subst c
      have a9 : arity 13 = 2 := by decide
      have a11 : arity 11 = 2 := by decide
      have hu : tBad (.mk 11 ts) = false := by
        simp only [tBad, hbs, Bool.or_false, decide_eq_false_iff_not, Decidable.not_not]; omega
      rw [gg_yes (T := 13) (ts := ts) (by simp [gOk]), gN_o N P (T := 13) (by decide)]
      refine QCalls.of Try.func124 rfl (fun args w => Try.call124 args w) (Nat.le_of_ble_eq_true rfl) [(0, .c (encTy (.mk 13 ts))), (1, .c (encNd (.mk kind N P S args)))] rfl fun β hβ => ?_; have hf := Try.func124
      repeat' (first | refine st ?_ | (refine AK.condS rfl (fun h => ?_) (fun h => ?_) <;> first | (cases h; done) | rw [h] | skip) | refine uQ hf rfl rfl ?_ | (refine uA rfl ?_ ?_ <;> (try (show (_ : Nat) * _ ≤ _; dsimp only))) | ((first | refine AOps.splitT rfl rfl rfl asm (fun h => ?_) | refine AOps.splitF rfl rfl rfl asm (fun h => ?_) | refine AOps.split rfl rfl rfl (fun h => ?_) (fun h => ?_)) <;> (fail_if_success (cases h; done)) <;> rw [h]))
      refine AK.ren [(2, 2), (3, 3), (4, 4), (5, 5)] [(5004, (0, none))] (env' := [(33, .c (.int .i64 (0 : Nat))), (32, .c (.int .i64 (encNds args).length)), (31, .c (.sl 5 (encNds args))), (2, .ptr 2 0), (3, .ptr 3 0), (4, .ptr 4 0), (5, .ptr 5 0)])
        (bs' := [(2, [.c (.int .i64 13), .c (.sl 2 (encTys ts))]), (3, [.c (.int .i64 kind), .c (.int .i64 N), .c (.int .i64 P), .c (.str S), .c (.sl 5 (encNds args))]), (4, [.c (.int .i64 0), .c (.int .i64 0), .c (.int .i64 0), .c (.str []), .own .exact 7 [], .own .exact 2 [], .own .exact 5 []]), (5, [.c (.int .i64 (13)), .c (.int .i64 (N)), .c (.int .i64 0), .c (.str S), .own (.tok 5004 0) 7 [], .own .exact 2 [], .own .exact 5 []])]) (ts' := [(5004, 0)]) (us' := [2, 3, 4, 5, 5004])
        ⟨⟨_, rfl, .inl rfl⟩, ⟨_, rfl, .inl rfl⟩, ⟨_, rfl, .inl rfl⟩, ⟨_, rfl, ⟨_, rfl, rfl⟩⟩, ⟨_, rfl, ⟨_, rfl, rfl⟩⟩, ⟨_, rfl, ⟨_, rfl, rfl⟩⟩, ⟨_, rfl, ⟨_, rfl, rfl⟩⟩, trivial⟩ ⟨⟨_, _, rfl, rfl, ⟨_, _, rfl, .inl rfl, ⟨_, _, rfl, .inl rfl, rfl⟩⟩⟩, ⟨_, _, rfl, rfl, ⟨_, _, rfl, .inl rfl, ⟨_, _, rfl, .inl rfl, ⟨_, _, rfl, .inl rfl, ⟨_, _, rfl, .inl rfl, ⟨_, _, rfl, .inl rfl, rfl⟩⟩⟩⟩⟩⟩, ⟨_, _, rfl, rfl, ⟨_, _, rfl, .inl rfl, ⟨_, _, rfl, .inl rfl, ⟨_, _, rfl, .inl rfl, ⟨_, _, rfl, .inl rfl, ⟨_, _, rfl, rfl, ⟨_, _, rfl, rfl, ⟨_, _, rfl, rfl, rfl⟩⟩⟩⟩⟩⟩⟩⟩, ⟨_, _, rfl, rfl, ⟨_, _, rfl, .inl rfl, ⟨_, _, rfl, .inl rfl, ⟨_, _, rfl, .inl rfl, ⟨_, _, rfl, .inl rfl, ⟨_, _, rfl, ⟨_, rfl, .inl ⟨rfl, _, rfl, .inr rfl⟩⟩, ⟨_, _, rfl, rfl, ⟨_, _, rfl, rfl, rfl⟩⟩⟩⟩⟩⟩⟩⟩, trivial⟩ rfl ?_
      refine AK.loopE (α := Nat) (fun i => i ≤ args.length ∧ True) (fun i => args.length - i) (fun i => [(33, .c (.int .i64 i)), (32, .c (.int .i64 (encNds args).length)), (31, .c (.sl 5 (encNds args))), (2, .ptr 2 0), (3, .ptr 3 0), (4, .ptr 4 0), (5, .ptr 5 0)]) (fun i => [(2, [.c (.int .i64 13), .c (.sl 2 (encTys ts))]), (3, [.c (.int .i64 kind), .c (.int .i64 N), .c (.int .i64 P), .c (.str S), .c (.sl 5 (encNds args))]), (4, [.c (.int .i64 0), .c (.int .i64 0), .c (.int .i64 0), .c (.str []), .own .exact 7 [], .own .exact 2 [], .own .exact 5 []]), (5, [.c (.int .i64 (13)), .c (.int .i64 (N)), .c (.int .i64 0), .c (.str S), .own (.tok 5004 0) 7 (encVls (gRow (args.take i) 13 (N) ts 0)), .own .exact 2 [], .own .exact 5 []])]) (fun _ => [(5004, 0)]) [2, 3, 4, 5, 5004] 0
        ⟨Nat.zero_le _, trivial⟩ ⟨.inl rfl, .inl rfl, .inl rfl, .inl rfl, .inl rfl, .inl rfl, .inl rfl, trivial⟩ ⟨rfl, rfl, rfl, (by rw [List.take_zero, grow_nil]; rfl), trivial⟩ ⟨rfl, trivial⟩ rfl rfl rfl ?_
      rintro i ⟨hi, _⟩ ih
      rcases get_or args i hi with ⟨x, hx, hm⟩ | he
      rotate_left
      · have hc := nds_end he
        subst he
        rw [List.take_length]
        clear ih
        repeat' (first | refine st ?_ | (refine AK.condS rfl (fun h => ?_) (fun h => ?_) <;> first | (cases h; done) | rw [h] | skip) | refine uQ hf rfl rfl ?_ | (refine uA rfl ?_ ?_ <;> (try (show (_ : Nat) * _ ≤ _; dsimp only))) | ((first | refine AOps.splitT rfl rfl rfl asm (fun h => ?_) | refine AOps.splitF rfl rfl rfl asm (fun h => ?_) | refine AOps.split rfl rfl rfl (fun h => ?_) (fun h => ?_)) <;> (fail_if_success (cases h; done)) <;> rw [h]))
        all_goals rfl
      have hc := nds_lt hx
      have h2 := lt_of_get hx
      have hq := hrec x hm (.mk 11 ts) hu
      have hkid : gKid 13 N ts i = .mk 11 ts := by simp [gKid]
      have hsn := gRow_snoc args 13 (N) ts 0 i x hx
      rw [Nat.zero_add, hkid] at hsn
      rcases hy : gGuess x (.mk 11 ts) with ⟨y1, y2, y3, y4, y5, y6, y7⟩
      rw [hy] at hq hsn
      have hl9 := gRow_len (args.take i) 13 (N) ts 0
      rw [List.length_take] at hl9
      generalize gRow (args.take i) 13 (N) ts 0 = acc at hsn hl9 ⊢
      obtain ⟨xk, xn, xp, xs, xa⟩ := x
      repeat' (first | refine st ?_ | (refine AK.condS rfl (fun h => ?_) (fun h => ?_) <;> first | (cases h; done) | rw [h] | skip) | refine uQ hf rfl rfl ?_ | refine uI rfl (i) rfl (nds_at hx) rfl ?_ | refine uC rfl hq ?_ | (refine uA rfl ?_ ?_ <;> (try (show (_ : Nat) * _ ≤ _; dsimp only))) | ((first | refine AOps.splitT rfl rfl rfl asm (fun h => ?_) | refine AOps.splitF rfl rfl rfl asm (fun h => ?_) | refine AOps.split rfl rfl rfl (fun h => ?_) (fun h => ?_)) <;> (fail_if_success (cases h; done)) <;> rw [h]))
      · have h1 := encVls_length acc
        simp only [List.length_cons, List.length_nil]
        omega
      · have hap : encVls acc ++ [encVl (.mk y1 y2 y3 y4 y5 y6 y7)] = encVls (gRow (args.take (i + 1)) 13 (N) ts 0) := by rw [hsn]; exact (encVls_append acc [_]).symm
        refine AK.ren [(2, 2), (3, 3), (4, 4), (5, 5)] [(5004, (0, some 5004))] (env' := [(33, .c (.int .i64 ((i + 1 : Nat) : Int))), (32, .c (.int .i64 (encNds args).length)), (31, .c (.sl 5 (encNds args))), (2, .ptr 2 0), (3, .ptr 3 0), (4, .ptr 4 0), (5, .ptr 5 0)])
          (bs' := [(2, [.c (.int .i64 13), .c (.sl 2 (encTys ts))]), (3, [.c (.int .i64 kind), .c (.int .i64 N), .c (.int .i64 P), .c (.str S), .c (.sl 5 (encNds args))]), (4, [.c (.int .i64 0), .c (.int .i64 0), .c (.int .i64 0), .c (.str []), .own .exact 7 [], .own .exact 2 [], .own .exact 5 []]), (5, [.c (.int .i64 (13)), .c (.int .i64 (N)), .c (.int .i64 0), .c (.str S), .own (.tok 5004 0) 7 (encVls (gRow (args.take (i + 1)) 13 (N) ts 0)), .own .exact 2 [], .own .exact 5 []])]) (ts' := [(5004, 0)]) (us' := [2, 3, 4, 5, 5004])
          ⟨⟨_, rfl, .inl (succ64' (i := i) (by omega))⟩, ⟨_, rfl, .inl rfl⟩, ⟨_, rfl, .inl rfl⟩, ⟨_, rfl, ⟨_, rfl, rfl⟩⟩, ⟨_, rfl, ⟨_, rfl, rfl⟩⟩, ⟨_, rfl, ⟨_, rfl, rfl⟩⟩, ⟨_, rfl, ⟨_, rfl, rfl⟩⟩, trivial⟩ ⟨⟨_, _, rfl, rfl, ⟨_, _, rfl, .inl rfl, ⟨_, _, rfl, .inl rfl, rfl⟩⟩⟩, ⟨_, _, rfl, rfl, ⟨_, _, rfl, .inl rfl, ⟨_, _, rfl, .inl rfl, ⟨_, _, rfl, .inl rfl, ⟨_, _, rfl, .inl rfl, ⟨_, _, rfl, .inl rfl, rfl⟩⟩⟩⟩⟩⟩, ⟨_, _, rfl, rfl, ⟨_, _, rfl, .inl rfl, ⟨_, _, rfl, .inl rfl, ⟨_, _, rfl, .inl rfl, ⟨_, _, rfl, .inl rfl, ⟨_, _, rfl, rfl, ⟨_, _, rfl, rfl, ⟨_, _, rfl, rfl, rfl⟩⟩⟩⟩⟩⟩⟩⟩, ⟨_, _, rfl, rfl, ⟨_, _, rfl, .inl rfl, ⟨_, _, rfl, .inl rfl, ⟨_, _, rfl, .inl rfl, ⟨_, _, rfl, .inl rfl, ⟨_, _, rfl, ⟨_, rfl, .inr ⟨_, _, rfl, rfl, congrArg (AV.own (.tok 5004 1) 7) hap⟩⟩, ⟨_, _, rfl, rfl, ⟨_, _, rfl, rfl, rfl⟩⟩⟩⟩⟩⟩⟩⟩, trivial⟩ rfl ?_
        exact ih (i + 1) ⟨h2, trivial⟩ (by show args.length - (i + 1) < args.length - i; omega)
    by_cases c : T = 11
    · subst c
      have a9 : arity 11 = 2 := by decide
      obtain ⟨u, u', rfl⟩ := tlen2 (show ts.length = 2 by omega)
      by_cases hl : args.length ≤ 2
      · rw [gg_yes (T := 11) (ts := [u, u']) (by simp [gOk, hl]), gN_o N P (T := 11) (by decide)]
        refine QCalls.of Try.func124 rfl (fun args w => Try.call124 args w) (Nat.le_of_ble_eq_true rfl) [(0, .c (encTy (.mk 11 [u, u']))), (1, .c (encNd (.mk kind N P S args)))] rfl fun β hβ => ?_; have hf := Try.func124
        repeat' (first | refine st ?_ | (refine AK.condS rfl (fun h => ?_) (fun h => ?_) <;> first | (cases h; done) | rw [h] | skip) | refine uQ hf rfl rfl ?_ | (refine uA rfl ?_ ?_ <;> (try (show (_ : Nat) * _ ≤ _; dsimp only))) | ((first | refine AOps.splitT rfl rfl rfl asm (fun h => ?_) | refine AOps.splitF rfl rfl rfl asm (fun h => ?_) | refine AOps.split rfl rfl rfl (fun h => ?_) (fun h => ?_)) <;> (fail_if_success (cases h; done)) <;> rw [h]))
        refine AK.ren [(2, 2), (3, 3), (4, 4), (5, 5)] [(5004, (0, none))] (env' := [(33, .c (.int .i64 (0 : Nat))), (32, .c (.int .i64 (encNds args).length)), (31, .c (.sl 5 (encNds args))), (2, .ptr 2 0), (3, .ptr 3 0), (4, .ptr 4 0), (5, .ptr 5 0)])
          (bs' := [(2, [.c (.int .i64 11), .c (.sl 2 (encTys [u, u']))]), (3, [.c (.int .i64 kind), .c (.int .i64 N), .c (.int .i64 P), .c (.str S), .c (.sl 5 (encNds args))]), (4, [.c (.int .i64 0), .c (.int .i64 0), .c (.int .i64 0), .c (.str []), .own .exact 7 [], .own .exact 2 [], .own .exact 5 []]), (5, [.c (.int .i64 (11)), .c (.int .i64 (N)), .c (.int .i64 0), .c (.str S), .own (.tok 5004 0) 7 [], .own .exact 2 [], .own .exact 5 []])]) (ts' := [(5004, 0)]) (us' := [2, 3, 4, 5, 5004])
          ⟨⟨_, rfl, .inl rfl⟩, ⟨_, rfl, .inl rfl⟩, ⟨_, rfl, .inl rfl⟩, ⟨_, rfl, ⟨_, rfl, rfl⟩⟩, ⟨_, rfl, ⟨_, rfl, rfl⟩⟩, ⟨_, rfl, ⟨_, rfl, rfl⟩⟩, ⟨_, rfl, ⟨_, rfl, rfl⟩⟩, trivial⟩ ⟨⟨_, _, rfl, rfl, ⟨_, _, rfl, .inl rfl, ⟨_, _, rfl, .inl rfl, rfl⟩⟩⟩, ⟨_, _, rfl, rfl, ⟨_, _, rfl, .inl rfl, ⟨_, _, rfl, .inl rfl, ⟨_, _, rfl, .inl rfl, ⟨_, _, rfl, .inl rfl, ⟨_, _, rfl, .inl rfl, rfl⟩⟩⟩⟩⟩⟩, ⟨_, _, rfl, rfl, ⟨_, _, rfl, .inl rfl, ⟨_, _, rfl, .inl rfl, ⟨_, _, rfl, .inl rfl, ⟨_, _, rfl, .inl rfl, ⟨_, _, rfl, rfl, ⟨_, _, rfl, rfl, ⟨_, _, rfl, rfl, rfl⟩⟩⟩⟩⟩⟩⟩⟩, ⟨_, _, rfl, rfl, ⟨_, _, rfl, .inl rfl, ⟨_, _, rfl, .inl rfl, ⟨_, _, rfl, .inl rfl, ⟨_, _, rfl, .inl rfl, ⟨_, _, rfl, ⟨_, rfl, .inl ⟨rfl, _, rfl, .inr rfl⟩⟩, ⟨_, _, rfl, rfl, ⟨_, _, rfl, rfl, rfl⟩⟩⟩⟩⟩⟩⟩⟩, trivial⟩ rfl ?_
        refine AK.loopE (α := Nat) (fun i => i ≤ args.length ∧ True) (fun i => args.length - i) (fun i => [(33, .c (.int .i64 i)), (32, .c (.int .i64 (encNds args).length)), (31, .c (.sl 5 (encNds args))), (2, .ptr 2 0), (3, .ptr 3 0), (4, .ptr 4 0), (5, .ptr 5 0)]) (fun i => [(2, [.c (.int .i64 11), .c (.sl 2 (encTys [u, u']))]), (3, [.c (.int .i64 kind), .c (.int .i64 N), .c (.int .i64 P), .c (.str S), .c (.sl 5 (encNds args))]), (4, [.c (.int .i64 0), .c (.int .i64 0), .c (.int .i64 0), .c (.str []), .own .exact 7 [], .own .exact 2 [], .own .exact 5 []]), (5, [.c (.int .i64 (11)), .c (.int .i64 (N)), .c (.int .i64 0), .c (.str S), .own (.tok 5004 0) 7 (encVls (gRow (args.take i) 11 (N) [u, u'] 0)), .own .exact 2 [], .own .exact 5 []])]) (fun _ => [(5004, 0)]) [2, 3, 4, 5, 5004] 0
          ⟨Nat.zero_le _, trivial⟩ ⟨.inl rfl, .inl rfl, .inl rfl, .inl rfl, .inl rfl, .inl rfl, .inl rfl, trivial⟩ ⟨rfl, rfl, rfl, (by rw [List.take_zero, grow_nil]; rfl), trivial⟩ ⟨rfl, trivial⟩ rfl rfl rfl ?_
        rintro i ⟨hi, _⟩ ih
        rcases get_or args i hi with ⟨x, hx, hm⟩ | he
        rotate_left
        · have hc := nds_end he
          subst he
          rw [List.take_length]
          clear ih
          repeat' (first | refine st ?_ | (refine AK.condS rfl (fun h => ?_) (fun h => ?_) <;> first | (cases h; done) | rw [h] | skip) | refine uQ hf rfl rfl ?_ | (refine uA rfl ?_ ?_ <;> (try (show (_ : Nat) * _ ≤ _; dsimp only))) | ((first | refine AOps.splitT rfl rfl rfl asm (fun h => ?_) | refine AOps.splitF rfl rfl rfl asm (fun h => ?_) | refine AOps.split rfl rfl rfl (fun h => ?_) (fun h => ?_)) <;> (fail_if_success (cases h; done)) <;> rw [h]))
          all_goals rfl
        have hc := nds_lt hx
        have h2 := lt_of_get hx
        obtain ⟨w, hw⟩ : ∃ w, [u, u'][i]? = some w := by
          rcases (by omega : i = 0 ∨ i = 1) with rfl | rfl
          · exact ⟨u, rfl⟩
          · exact ⟨u', rfl⟩
        have hwb : tBad w = false := tBads_mem hbs (List.mem_of_getElem? hw)
        have hq := hrec x hm w hwb
        have hc2 : decide (((i : Nat) : Int) < 2) = true := decide_eq_true (by omega)
        have hkid : gKid 11 N [u, u'] i = w := by simp [gKid, List.getD_eq_getElem?_getD, hw]
        obtain ⟨U, us⟩ := w
        have hsn := gRow_snoc args 11 (N) [u, u'] 0 i x hx
        rw [Nat.zero_add, hkid] at hsn
        rcases hy : gGuess x (.mk U us) with ⟨y1, y2, y3, y4, y5, y6, y7⟩
        rw [hy] at hq hsn
        have hl9 := gRow_len (args.take i) 11 (N) [u, u'] 0
        rw [List.length_take] at hl9
        generalize gRow (args.take i) 11 (N) [u, u'] 0 = acc at hsn hl9 ⊢
        obtain ⟨xk, xn, xp, xs, xa⟩ := x
        repeat' (first | refine st ?_ | (refine AK.condS rfl (fun h => ?_) (fun h => ?_) <;> first | (cases h; done) | rw [h] | skip) | refine uQ hf rfl rfl ?_ | refine uI rfl (i) rfl (nds_at hx) rfl ?_ | refine uI rfl (i) rfl (tys_at hw) rfl ?_ | refine uC rfl hq ?_ | (refine uA rfl ?_ ?_ <;> (try (show (_ : Nat) * _ ≤ _; dsimp only))) | ((first | refine AOps.splitT rfl rfl rfl asm (fun h => ?_) | refine AOps.splitF rfl rfl rfl asm (fun h => ?_) | refine AOps.split rfl rfl rfl (fun h => ?_) (fun h => ?_)) <;> (fail_if_success (cases h; done)) <;> rw [h]))
        · have h1 := encVls_length acc
          simp only [List.length_cons, List.length_nil]
          omega
        · have hap : encVls acc ++ [encVl (.mk y1 y2 y3 y4 y5 y6 y7)] = encVls (gRow (args.take (i + 1)) 11 (N) [u, u'] 0) := by rw [hsn]; exact (encVls_append acc [_]).symm
          refine AK.ren [(2, 2), (3, 3), (4, 4), (5, 5)] [(5004, (0, some 5004))] (env' := [(33, .c (.int .i64 ((i + 1 : Nat) : Int))), (32, .c (.int .i64 (encNds args).length)), (31, .c (.sl 5 (encNds args))), (2, .ptr 2 0), (3, .ptr 3 0), (4, .ptr 4 0), (5, .ptr 5 0)])
            (bs' := [(2, [.c (.int .i64 11), .c (.sl 2 (encTys [u, u']))]), (3, [.c (.int .i64 kind), .c (.int .i64 N), .c (.int .i64 P), .c (.str S), .c (.sl 5 (encNds args))]), (4, [.c (.int .i64 0), .c (.int .i64 0), .c (.int .i64 0), .c (.str []), .own .exact 7 [], .own .exact 2 [], .own .exact 5 []]), (5, [.c (.int .i64 (11)), .c (.int .i64 (N)), .c (.int .i64 0), .c (.str S), .own (.tok 5004 0) 7 (encVls (gRow (args.take (i + 1)) 11 (N) [u, u'] 0)), .own .exact 2 [], .own .exact 5 []])]) (ts' := [(5004, 0)]) (us' := [2, 3, 4, 5, 5004])
            ⟨⟨_, rfl, .inl (succ64' (i := i) (by omega))⟩, ⟨_, rfl, .inl rfl⟩, ⟨_, rfl, .inl rfl⟩, ⟨_, rfl, ⟨_, rfl, rfl⟩⟩, ⟨_, rfl, ⟨_, rfl, rfl⟩⟩, ⟨_, rfl, ⟨_, rfl, rfl⟩⟩, ⟨_, rfl, ⟨_, rfl, rfl⟩⟩, trivial⟩ ⟨⟨_, _, rfl, rfl, ⟨_, _, rfl, .inl rfl, ⟨_, _, rfl, .inl rfl, rfl⟩⟩⟩, ⟨_, _, rfl, rfl, ⟨_, _, rfl, .inl rfl, ⟨_, _, rfl, .inl rfl, ⟨_, _, rfl, .inl rfl, ⟨_, _, rfl, .inl rfl, ⟨_, _, rfl, .inl rfl, rfl⟩⟩⟩⟩⟩⟩, ⟨_, _, rfl, rfl, ⟨_, _, rfl, .inl rfl, ⟨_, _, rfl, .inl rfl, ⟨_, _, rfl, .inl rfl, ⟨_, _, rfl, .inl rfl, ⟨_, _, rfl, rfl, ⟨_, _, rfl, rfl, ⟨_, _, rfl, rfl, rfl⟩⟩⟩⟩⟩⟩⟩⟩, ⟨_, _, rfl, rfl, ⟨_, _, rfl, .inl rfl, ⟨_, _, rfl, .inl rfl, ⟨_, _, rfl, .inl rfl, ⟨_, _, rfl, .inl rfl, ⟨_, _, rfl, ⟨_, rfl, .inr ⟨_, _, rfl, rfl, congrArg (AV.own (.tok 5004 1) 7) hap⟩⟩, ⟨_, _, rfl, rfl, ⟨_, _, rfl, rfl, rfl⟩⟩⟩⟩⟩⟩⟩⟩, trivial⟩ rfl ?_
          exact ih (i + 1) ⟨h2, trivial⟩ (by show args.length - (i + 1) < args.length - i; omega)
      · rw [gg_no (T := 11) (ts := [u, u']) (by simp only [gOk, decide_eq_false_iff_not]; omega)]
        refine QCalls.of Try.func124 rfl (fun args w => Try.call124 args w) (Nat.le_of_ble_eq_true rfl) [(0, .c (encTy (.mk 11 [u, u']))), (1, .c (encNd (.mk kind N P S args)))] rfl fun β hβ => ?_; have hf := Try.func124
        repeat' (first | refine st ?_ | (refine AK.condS rfl (fun h => ?_) (fun h => ?_) <;> first | (cases h; done) | rw [h] | skip) | refine uQ hf rfl rfl ?_ | (refine uA rfl ?_ ?_ <;> (try (show (_ : Nat) * _ ≤ _; dsimp only))) | ((first | refine AOps.splitT rfl rfl rfl asm (fun h => ?_) | refine AOps.splitF rfl rfl rfl asm (fun h => ?_) | refine AOps.split rfl rfl rfl (fun h => ?_) (fun h => ?_)) <;> (fail_if_success (cases h; done)) <;> rw [h]))
        refine AK.ren [(2, 2), (3, 3), (4, 4), (5, 5)] [(5004, (0, none))] (env' := [(33, .c (.int .i64 (0 : Nat))), (32, .c (.int .i64 (encNds args).length)), (31, .c (.sl 5 (encNds args))), (2, .ptr 2 0), (3, .ptr 3 0), (4, .ptr 4 0), (5, .ptr 5 0)])
          (bs' := [(2, [.c (.int .i64 11), .c (.sl 2 (encTys [u, u']))]), (3, [.c (.int .i64 kind), .c (.int .i64 N), .c (.int .i64 P), .c (.str S), .c (.sl 5 (encNds args))]), (4, [.c (.int .i64 0), .c (.int .i64 0), .c (.int .i64 0), .c (.str []), .own .exact 7 [], .own .exact 2 [], .own .exact 5 []]), (5, [.c (.int .i64 (11)), .c (.int .i64 (N)), .c (.int .i64 0), .c (.str S), .own (.tok 5004 0) 7 [], .own .exact 2 [], .own .exact 5 []])]) (ts' := [(5004, 0)]) (us' := [2, 3, 4, 5, 5004])
          ⟨⟨_, rfl, .inl rfl⟩, ⟨_, rfl, .inl rfl⟩, ⟨_, rfl, .inl rfl⟩, ⟨_, rfl, ⟨_, rfl, rfl⟩⟩, ⟨_, rfl, ⟨_, rfl, rfl⟩⟩, ⟨_, rfl, ⟨_, rfl, rfl⟩⟩, ⟨_, rfl, ⟨_, rfl, rfl⟩⟩, trivial⟩ ⟨⟨_, _, rfl, rfl, ⟨_, _, rfl, .inl rfl, ⟨_, _, rfl, .inl rfl, rfl⟩⟩⟩, ⟨_, _, rfl, rfl, ⟨_, _, rfl, .inl rfl, ⟨_, _, rfl, .inl rfl, ⟨_, _, rfl, .inl rfl, ⟨_, _, rfl, .inl rfl, ⟨_, _, rfl, .inl rfl, rfl⟩⟩⟩⟩⟩⟩, ⟨_, _, rfl, rfl, ⟨_, _, rfl, .inl rfl, ⟨_, _, rfl, .inl rfl, ⟨_, _, rfl, .inl rfl, ⟨_, _, rfl, .inl rfl, ⟨_, _, rfl, rfl, ⟨_, _, rfl, rfl, ⟨_, _, rfl, rfl, rfl⟩⟩⟩⟩⟩⟩⟩⟩, ⟨_, _, rfl, rfl, ⟨_, _, rfl, .inl rfl, ⟨_, _, rfl, .inl rfl, ⟨_, _, rfl, .inl rfl, ⟨_, _, rfl, .inl rfl, ⟨_, _, rfl, ⟨_, rfl, .inl ⟨rfl, _, rfl, .inr rfl⟩⟩, ⟨_, _, rfl, rfl, ⟨_, _, rfl, rfl, rfl⟩⟩⟩⟩⟩⟩⟩⟩, trivial⟩ rfl ?_
        refine AK.loopE (α := Nat) (fun i => i ≤ args.length ∧ i ≤ 2) (fun i => args.length - i) (fun i => [(33, .c (.int .i64 i)), (32, .c (.int .i64 (encNds args).length)), (31, .c (.sl 5 (encNds args))), (2, .ptr 2 0), (3, .ptr 3 0), (4, .ptr 4 0), (5, .ptr 5 0)]) (fun i => [(2, [.c (.int .i64 11), .c (.sl 2 (encTys [u, u']))]), (3, [.c (.int .i64 kind), .c (.int .i64 N), .c (.int .i64 P), .c (.str S), .c (.sl 5 (encNds args))]), (4, [.c (.int .i64 0), .c (.int .i64 0), .c (.int .i64 0), .c (.str []), .own .exact 7 [], .own .exact 2 [], .own .exact 5 []]), (5, [.c (.int .i64 (11)), .c (.int .i64 (N)), .c (.int .i64 0), .c (.str S), .own (.tok 5004 0) 7 (encVls (gRow (args.take i) 11 (N) [u, u'] 0)), .own .exact 2 [], .own .exact 5 []])]) (fun _ => [(5004, 0)]) [2, 3, 4, 5, 5004] 0
          ⟨Nat.zero_le _, by omega⟩ ⟨.inl rfl, .inl rfl, .inl rfl, .inl rfl, .inl rfl, .inl rfl, .inl rfl, trivial⟩ ⟨rfl, rfl, rfl, (by rw [List.take_zero, grow_nil]; rfl), trivial⟩ ⟨rfl, trivial⟩ rfl rfl rfl ?_
        rintro i ⟨hi, hi2⟩ ih
        rcases get_or args i hi with ⟨x, hx, hm⟩ | he
        rotate_left
        · omega
        have hc := nds_lt hx
        have h2 := lt_of_get hx
        by_cases h3 : i = 2
        · have hc2 : decide (((i : Nat) : Int) < 2) = false := decide_eq_false (by omega)
          clear ih
          obtain ⟨xk, xn, xp, xs, xa⟩ := x
          repeat' (first | refine st ?_ | (refine AK.condS rfl (fun h => ?_) (fun h => ?_) <;> first | (cases h; done) | rw [h] | skip) | refine uQ hf rfl rfl ?_ | refine uI rfl (i) rfl (nds_at hx) rfl ?_ | (refine uA rfl ?_ ?_ <;> (try (show (_ : Nat) * _ ≤ _; dsimp only))) | ((first | refine AOps.splitT rfl rfl rfl asm (fun h => ?_) | refine AOps.splitF rfl rfl rfl asm (fun h => ?_) | refine AOps.split rfl rfl rfl (fun h => ?_) (fun h => ?_)) <;> (fail_if_success (cases h; done)) <;> rw [h]))
          all_goals rfl
        obtain ⟨w, hw⟩ : ∃ w, [u, u'][i]? = some w := by
          rcases (by omega : i = 0 ∨ i = 1) with rfl | rfl
          · exact ⟨u, rfl⟩
          · exact ⟨u', rfl⟩
        have hwb : tBad w = false := tBads_mem hbs (List.mem_of_getElem? hw)
        have hq := hrec x hm w hwb
        have hc2 : decide (((i : Nat) : Int) < 2) = true := decide_eq_true (by omega)
        have hkid : gKid 11 N [u, u'] i = w := by simp [gKid, List.getD_eq_getElem?_getD, hw]
        obtain ⟨U, us⟩ := w
        have hsn := gRow_snoc args 11 (N) [u, u'] 0 i x hx
        rw [Nat.zero_add, hkid] at hsn
        rcases hy : gGuess x (.mk U us) with ⟨y1, y2, y3, y4, y5, y6, y7⟩
        rw [hy] at hq hsn
        have hl9 := gRow_len (args.take i) 11 (N) [u, u'] 0
        rw [List.length_take] at hl9
        generalize gRow (args.take i) 11 (N) [u, u'] 0 = acc at hsn hl9 ⊢
        obtain ⟨xk, xn, xp, xs, xa⟩ := x
        repeat' (first | refine st ?_ | (refine AK.condS rfl (fun h => ?_) (fun h => ?_) <;> first | (cases h; done) | rw [h] | skip) | refine uQ hf rfl rfl ?_ | refine uI rfl (i) rfl (nds_at hx) rfl ?_ | refine uI rfl (i) rfl (tys_at hw) rfl ?_ | refine uC rfl hq ?_ | (refine uA rfl ?_ ?_ <;> (try (show (_ : Nat) * _ ≤ _; dsimp only))) | ((first | refine AOps.splitT rfl rfl rfl asm (fun h => ?_) | refine AOps.splitF rfl rfl rfl asm (fun h => ?_) | refine AOps.split rfl rfl rfl (fun h => ?_) (fun h => ?_)) <;> (fail_if_success (cases h; done)) <;> rw [h]))
        · have h1 := encVls_length acc
          simp only [List.length_cons, List.length_nil]
          omega
        · have hap : encVls acc ++ [encVl (.mk y1 y2 y3 y4 y5 y6 y7)] = encVls (gRow (args.take (i + 1)) 11 (N) [u, u'] 0) := by rw [hsn]; exact (encVls_append acc [_]).symm
          refine AK.ren [(2, 2), (3, 3), (4, 4), (5, 5)] [(5004, (0, some 5004))] (env' := [(33, .c (.int .i64 ((i + 1 : Nat) : Int))), (32, .c (.int .i64 (encNds args).length)), (31, .c (.sl 5 (encNds args))), (2, .ptr 2 0), (3, .ptr 3 0), (4, .ptr 4 0), (5, .ptr 5 0)])
            (bs' := [(2, [.c (.int .i64 11), .c (.sl 2 (encTys [u, u']))]), (3, [.c (.int .i64 kind), .c (.int .i64 N), .c (.int .i64 P), .c (.str S), .c (.sl 5 (encNds args))]), (4, [.c (.int .i64 0), .c (.int .i64 0), .c (.int .i64 0), .c (.str []), .own .exact 7 [], .own .exact 2 [], .own .exact 5 []]), (5, [.c (.int .i64 (11)), .c (.int .i64 (N)), .c (.int .i64 0), .c (.str S), .own (.tok 5004 0) 7 (encVls (gRow (args.take (i + 1)) 11 (N) [u, u'] 0)), .own .exact 2 [], .own .exact 5 []])]) (ts' := [(5004, 0)]) (us' := [2, 3, 4, 5, 5004])
            ⟨⟨_, rfl, .inl (succ64' (i := i) (by omega))⟩, ⟨_, rfl, .inl rfl⟩, ⟨_, rfl, .inl rfl⟩, ⟨_, rfl, ⟨_, rfl, rfl⟩⟩, ⟨_, rfl, ⟨_, rfl, rfl⟩⟩, ⟨_, rfl, ⟨_, rfl, rfl⟩⟩, ⟨_, rfl, ⟨_, rfl, rfl⟩⟩, trivial⟩ ⟨⟨_, _, rfl, rfl, ⟨_, _, rfl, .inl rfl, ⟨_, _, rfl, .inl rfl, rfl⟩⟩⟩, ⟨_, _, rfl, rfl, ⟨_, _, rfl, .inl rfl, ⟨_, _, rfl, .inl rfl, ⟨_, _, rfl, .inl rfl, ⟨_, _, rfl, .inl rfl, ⟨_, _, rfl, .inl rfl, rfl⟩⟩⟩⟩⟩⟩, ⟨_, _, rfl, rfl, ⟨_, _, rfl, .inl rfl, ⟨_, _, rfl, .inl rfl, ⟨_, _, rfl, .inl rfl, ⟨_, _, rfl, .inl rfl, ⟨_, _, rfl, rfl, ⟨_, _, rfl, rfl, ⟨_, _, rfl, rfl, rfl⟩⟩⟩⟩⟩⟩⟩⟩, ⟨_, _, rfl, rfl, ⟨_, _, rfl, .inl rfl, ⟨_, _, rfl, .inl rfl, ⟨_, _, rfl, .inl rfl, ⟨_, _, rfl, .inl rfl, ⟨_, _, rfl, ⟨_, rfl, .inr ⟨_, _, rfl, rfl, congrArg (AV.own (.tok 5004 1) 7) hap⟩⟩, ⟨_, _, rfl, rfl, ⟨_, _, rfl, rfl, rfl⟩⟩⟩⟩⟩⟩⟩⟩, trivial⟩ rfl ?_
          exact ih (i + 1) ⟨h2, by omega⟩ (by show args.length - (i + 1) < args.length - i; omega)
    by_cases c : T = 12
    · subst c
      have a9 : arity 12 = 2 := by decide
      obtain ⟨u, u', rfl⟩ := tlen2 (show ts.length = 2 by omega)
      by_cases v0 : IntKind.i64.wrap (P - 24) = 0
      · have hv : IntKind.i64.wrap (P - 24) = 0 := by assumption
        have hu : tBad u = false := tBads_mem hbs (by simp)
        have g1 : [u, u'][0]? = some u := rfl
        rw [gg_yes (T := 12) (ts := [u, u']) (by simp [gOk, gN_12, hv]), gN_12, hv]
        obtain ⟨U, us⟩ := u
        refine QCalls.of Try.func124 rfl (fun args w => Try.call124 args w) (Nat.le_of_ble_eq_true rfl) [(0, .c (encTy (.mk 12 [.mk U us, u']))), (1, .c (encNd (.mk kind N P S args)))] rfl fun β hβ => ?_; have hf := Try.func124
        repeat' (first | refine st ?_ | (refine AK.condS rfl (fun h => ?_) (fun h => ?_) <;> first | (cases h; done) | rw [h] | skip) | refine uQ hf rfl rfl ?_ | (refine uA rfl ?_ ?_ <;> (try (show (_ : Nat) * _ ≤ _; dsimp only))) | ((first | refine AOps.splitT rfl rfl rfl asm (fun h => ?_) | refine AOps.splitF rfl rfl rfl asm (fun h => ?_) | refine AOps.split rfl rfl rfl (fun h => ?_) (fun h => ?_)) <;> (fail_if_success (cases h; done)) <;> rw [h]))
        refine AK.ren [(2, 2), (3, 3), (4, 4), (5, 5)] [(5004, (0, none))] (env' := [(33, .c (.int .i64 (0 : Nat))), (32, .c (.int .i64 (encNds args).length)), (31, .c (.sl 5 (encNds args))), (2, .ptr 2 0), (3, .ptr 3 0), (4, .ptr 4 0), (5, .ptr 5 0)])
          (bs' := [(2, [.c (.int .i64 12), .c (.sl 2 (encTys [.mk U us, u']))]), (3, [.c (.int .i64 kind), .c (.int .i64 N), .c (.int .i64 P), .c (.str S), .c (.sl 5 (encNds args))]), (4, [.c (.int .i64 0), .c (.int .i64 0), .c (.int .i64 0), .c (.str []), .own .exact 7 [], .own .exact 2 [], .own .exact 5 []]), (5, [.c (.int .i64 (12)), .c (.int .i64 (0)), .c (.int .i64 0), .c (.str S), .own (.tok 5004 0) 7 [], .own .exact 2 [], .own .exact 5 []])]) (ts' := [(5004, 0)]) (us' := [2, 3, 4, 5, 5004])
          ⟨⟨_, rfl, .inl rfl⟩, ⟨_, rfl, .inl rfl⟩, ⟨_, rfl, .inl rfl⟩, ⟨_, rfl, ⟨_, rfl, rfl⟩⟩, ⟨_, rfl, ⟨_, rfl, rfl⟩⟩, ⟨_, rfl, ⟨_, rfl, rfl⟩⟩, ⟨_, rfl, ⟨_, rfl, rfl⟩⟩, trivial⟩ ⟨⟨_, _, rfl, rfl, ⟨_, _, rfl, .inl rfl, ⟨_, _, rfl, .inl rfl, rfl⟩⟩⟩, ⟨_, _, rfl, rfl, ⟨_, _, rfl, .inl rfl, ⟨_, _, rfl, .inl rfl, ⟨_, _, rfl, .inl rfl, ⟨_, _, rfl, .inl rfl, ⟨_, _, rfl, .inl rfl, rfl⟩⟩⟩⟩⟩⟩, ⟨_, _, rfl, rfl, ⟨_, _, rfl, .inl rfl, ⟨_, _, rfl, .inl rfl, ⟨_, _, rfl, .inl rfl, ⟨_, _, rfl, .inl rfl, ⟨_, _, rfl, rfl, ⟨_, _, rfl, rfl, ⟨_, _, rfl, rfl, rfl⟩⟩⟩⟩⟩⟩⟩⟩, ⟨_, _, rfl, rfl, ⟨_, _, rfl, .inl rfl, ⟨_, _, rfl, .inl (congrArg (fun z => AV.c (.int .i64 z)) hv), ⟨_, _, rfl, .inl rfl, ⟨_, _, rfl, .inl rfl, ⟨_, _, rfl, ⟨_, rfl, .inl ⟨rfl, _, rfl, .inr rfl⟩⟩, ⟨_, _, rfl, rfl, ⟨_, _, rfl, rfl, rfl⟩⟩⟩⟩⟩⟩⟩⟩, trivial⟩ rfl ?_
        refine AK.loopE (α := Nat) (fun i => i ≤ args.length ∧ True) (fun i => args.length - i) (fun i => [(33, .c (.int .i64 i)), (32, .c (.int .i64 (encNds args).length)), (31, .c (.sl 5 (encNds args))), (2, .ptr 2 0), (3, .ptr 3 0), (4, .ptr 4 0), (5, .ptr 5 0)]) (fun i => [(2, [.c (.int .i64 12), .c (.sl 2 (encTys [.mk U us, u']))]), (3, [.c (.int .i64 kind), .c (.int .i64 N), .c (.int .i64 P), .c (.str S), .c (.sl 5 (encNds args))]), (4, [.c (.int .i64 0), .c (.int .i64 0), .c (.int .i64 0), .c (.str []), .own .exact 7 [], .own .exact 2 [], .own .exact 5 []]), (5, [.c (.int .i64 (12)), .c (.int .i64 (0)), .c (.int .i64 0), .c (.str S), .own (.tok 5004 0) 7 (encVls (gRow (args.take i) 12 (0) [.mk U us, u'] 0)), .own .exact 2 [], .own .exact 5 []])]) (fun _ => [(5004, 0)]) [2, 3, 4, 5, 5004] 0
          ⟨Nat.zero_le _, trivial⟩ ⟨.inl rfl, .inl rfl, .inl rfl, .inl rfl, .inl rfl, .inl rfl, .inl rfl, trivial⟩ ⟨rfl, rfl, rfl, (by rw [List.take_zero, grow_nil]; rfl), trivial⟩ ⟨rfl, trivial⟩ rfl rfl rfl ?_
        rintro i ⟨hi, _⟩ ih
        rcases get_or args i hi with ⟨x, hx, hm⟩ | he
        rotate_left
        · have hc := nds_end he
          subst he
          rw [List.take_length]
          clear ih
          repeat' (first | refine st ?_ | (refine AK.condS rfl (fun h => ?_) (fun h => ?_) <;> first | (cases h; done) | rw [h] | skip) | refine uQ hf rfl rfl ?_ | (refine uA rfl ?_ ?_ <;> (try (show (_ : Nat) * _ ≤ _; dsimp only))) | ((first | refine AOps.splitT rfl rfl rfl asm (fun h => ?_) | refine AOps.splitF rfl rfl rfl asm (fun h => ?_) | refine AOps.split rfl rfl rfl (fun h => ?_) (fun h => ?_)) <;> (fail_if_success (cases h; done)) <;> rw [h]))
          all_goals rfl
        have hc := nds_lt hx
        have h2 := lt_of_get hx
        have hq := hrec x hm (.mk U us) hu
        have hkid : gKid 12 0 [.mk U us, u'] i = .mk U us := by simp [gKid]
        have hsn := gRow_snoc args 12 (0) [.mk U us, u'] 0 i x hx
        rw [Nat.zero_add, hkid] at hsn
        rcases hy : gGuess x (.mk U us) with ⟨y1, y2, y3, y4, y5, y6, y7⟩
        rw [hy] at hq hsn
        have hl9 := gRow_len (args.take i) 12 (0) [.mk U us, u'] 0
        rw [List.length_take] at hl9
        generalize gRow (args.take i) 12 (0) [.mk U us, u'] 0 = acc at hsn hl9 ⊢
        obtain ⟨xk, xn, xp, xs, xa⟩ := x
        repeat' (first | refine st ?_ | (refine AK.condS rfl (fun h => ?_) (fun h => ?_) <;> first | (cases h; done) | rw [h] | skip) | refine uQ hf rfl rfl ?_ | refine uI rfl (i) rfl (nds_at hx) rfl ?_ | refine uI rfl (0) rfl (tys_at g1) rfl ?_ | refine uC rfl hq ?_ | (refine uA rfl ?_ ?_ <;> (try (show (_ : Nat) * _ ≤ _; dsimp only))) | ((first | refine AOps.splitT rfl rfl rfl asm (fun h => ?_) | refine AOps.splitF rfl rfl rfl asm (fun h => ?_) | refine AOps.split rfl rfl rfl (fun h => ?_) (fun h => ?_)) <;> (fail_if_success (cases h; done)) <;> rw [h]))
        · have h1 := encVls_length acc
          simp only [List.length_cons, List.length_nil]
          omega
        · have hap : encVls acc ++ [encVl (.mk y1 y2 y3 y4 y5 y6 y7)] = encVls (gRow (args.take (i + 1)) 12 (0) [.mk U us, u'] 0) := by rw [hsn]; exact (encVls_append acc [_]).symm
          refine AK.ren [(2, 2), (3, 3), (4, 4), (5, 5)] [(5004, (0, some 5004))] (env' := [(33, .c (.int .i64 ((i + 1 : Nat) : Int))), (32, .c (.int .i64 (encNds args).length)), (31, .c (.sl 5 (encNds args))), (2, .ptr 2 0), (3, .ptr 3 0), (4, .ptr 4 0), (5, .ptr 5 0)])
            (bs' := [(2, [.c (.int .i64 12), .c (.sl 2 (encTys [.mk U us, u']))]), (3, [.c (.int .i64 kind), .c (.int .i64 N), .c (.int .i64 P), .c (.str S), .c (.sl 5 (encNds args))]), (4, [.c (.int .i64 0), .c (.int .i64 0), .c (.int .i64 0), .c (.str []), .own .exact 7 [], .own .exact 2 [], .own .exact 5 []]), (5, [.c (.int .i64 (12)), .c (.int .i64 (0)), .c (.int .i64 0), .c (.str S), .own (.tok 5004 0) 7 (encVls (gRow (args.take (i + 1)) 12 (0) [.mk U us, u'] 0)), .own .exact 2 [], .own .exact 5 []])]) (ts' := [(5004, 0)]) (us' := [2, 3, 4, 5, 5004])
            ⟨⟨_, rfl, .inl (succ64' (i := i) (by omega))⟩, ⟨_, rfl, .inl rfl⟩, ⟨_, rfl, .inl rfl⟩, ⟨_, rfl, ⟨_, rfl, rfl⟩⟩, ⟨_, rfl, ⟨_, rfl, rfl⟩⟩, ⟨_, rfl, ⟨_, rfl, rfl⟩⟩, ⟨_, rfl, ⟨_, rfl, rfl⟩⟩, trivial⟩ ⟨⟨_, _, rfl, rfl, ⟨_, _, rfl, .inl rfl, ⟨_, _, rfl, .inl rfl, rfl⟩⟩⟩, ⟨_, _, rfl, rfl, ⟨_, _, rfl, .inl rfl, ⟨_, _, rfl, .inl rfl, ⟨_, _, rfl, .inl rfl, ⟨_, _, rfl, .inl rfl, ⟨_, _, rfl, .inl rfl, rfl⟩⟩⟩⟩⟩⟩, ⟨_, _, rfl, rfl, ⟨_, _, rfl, .inl rfl, ⟨_, _, rfl, .inl rfl, ⟨_, _, rfl, .inl rfl, ⟨_, _, rfl, .inl rfl, ⟨_, _, rfl, rfl, ⟨_, _, rfl, rfl, ⟨_, _, rfl, rfl, rfl⟩⟩⟩⟩⟩⟩⟩⟩, ⟨_, _, rfl, rfl, ⟨_, _, rfl, .inl rfl, ⟨_, _, rfl, .inl rfl, ⟨_, _, rfl, .inl rfl, ⟨_, _, rfl, .inl rfl, ⟨_, _, rfl, ⟨_, rfl, .inr ⟨_, _, rfl, rfl, congrArg (AV.own (.tok 5004 1) 7) hap⟩⟩, ⟨_, _, rfl, rfl, ⟨_, _, rfl, rfl, rfl⟩⟩⟩⟩⟩⟩⟩⟩, trivial⟩ rfl ?_
          exact ih (i + 1) ⟨h2, trivial⟩ (by show args.length - (i + 1) < args.length - i; omega)
      by_cases v1 : IntKind.i64.wrap (P - 24) = 1
      · have hv : IntKind.i64.wrap (P - 24) = 1 := by assumption
        have hu : tBad u' = false := tBads_mem hbs (by simp)
        have g1 : [u, u'][1]? = some u' := rfl
        rw [gg_yes (T := 12) (ts := [u, u']) (by simp [gOk, gN_12, hv]), gN_12, hv]
        obtain ⟨U, us⟩ := u'
        refine QCalls.of Try.func124 rfl (fun args w => Try.call124 args w) (Nat.le_of_ble_eq_true rfl) [(0, .c (encTy (.mk 12 [u, .mk U us]))), (1, .c (encNd (.mk kind N P S args)))] rfl fun β hβ => ?_; have hf := Try.func124
        repeat' (first | refine st ?_ | (refine AK.condS rfl (fun h => ?_) (fun h => ?_) <;> first | (cases h; done) | rw [h] | skip) | refine uQ hf rfl rfl ?_ | (refine uA rfl ?_ ?_ <;> (try (show (_ : Nat) * _ ≤ _; dsimp only))) | ((first | refine AOps.splitT rfl rfl rfl asm (fun h => ?_) | refine AOps.splitF rfl rfl rfl asm (fun h => ?_) | refine AOps.split rfl rfl rfl (fun h => ?_) (fun h => ?_)) <;> (fail_if_success (cases h; done)) <;> rw [h]))
        refine AK.ren [(2, 2), (3, 3), (4, 4), (5, 5)] [(5004, (0, none))] (env' := [(33, .c (.int .i64 (0 : Nat))), (32, .c (.int .i64 (encNds args).length)), (31, .c (.sl 5 (encNds args))), (2, .ptr 2 0), (3, .ptr 3 0), (4, .ptr 4 0), (5, .ptr 5 0)])
          (bs' := [(2, [.c (.int .i64 12), .c (.sl 2 (encTys [u, .mk U us]))]), (3, [.c (.int .i64 kind), .c (.int .i64 N), .c (.int .i64 P), .c (.str S), .c (.sl 5 (encNds args))]), (4, [.c (.int .i64 0), .c (.int .i64 0), .c (.int .i64 0), .c (.str []), .own .exact 7 [], .own .exact 2 [], .own .exact 5 []]), (5, [.c (.int .i64 (12)), .c (.int .i64 (1)), .c (.int .i64 0), .c (.str S), .own (.tok 5004 0) 7 [], .own .exact 2 [], .own .exact 5 []])]) (ts' := [(5004, 0)]) (us' := [2, 3, 4, 5, 5004])
          ⟨⟨_, rfl, .inl rfl⟩, ⟨_, rfl, .inl rfl⟩, ⟨_, rfl, .inl rfl⟩, ⟨_, rfl, ⟨_, rfl, rfl⟩⟩, ⟨_, rfl, ⟨_, rfl, rfl⟩⟩, ⟨_, rfl, ⟨_, rfl, rfl⟩⟩, ⟨_, rfl, ⟨_, rfl, rfl⟩⟩, trivial⟩ ⟨⟨_, _, rfl, rfl, ⟨_, _, rfl, .inl rfl, ⟨_, _, rfl, .inl rfl, rfl⟩⟩⟩, ⟨_, _, rfl, rfl, ⟨_, _, rfl, .inl rfl, ⟨_, _, rfl, .inl rfl, ⟨_, _, rfl, .inl rfl, ⟨_, _, rfl, .inl rfl, ⟨_, _, rfl, .inl rfl, rfl⟩⟩⟩⟩⟩⟩, ⟨_, _, rfl, rfl, ⟨_, _, rfl, .inl rfl, ⟨_, _, rfl, .inl rfl, ⟨_, _, rfl, .inl rfl, ⟨_, _, rfl, .inl rfl, ⟨_, _, rfl, rfl, ⟨_, _, rfl, rfl, ⟨_, _, rfl, rfl, rfl⟩⟩⟩⟩⟩⟩⟩⟩, ⟨_, _, rfl, rfl, ⟨_, _, rfl, .inl rfl, ⟨_, _, rfl, .inl (congrArg (fun z => AV.c (.int .i64 z)) hv), ⟨_, _, rfl, .inl rfl, ⟨_, _, rfl, .inl rfl, ⟨_, _, rfl, ⟨_, rfl, .inl ⟨rfl, _, rfl, .inr rfl⟩⟩, ⟨_, _, rfl, rfl, ⟨_, _, rfl, rfl, rfl⟩⟩⟩⟩⟩⟩⟩⟩, trivial⟩ rfl ?_
        refine AK.loopE (α := Nat) (fun i => i ≤ args.length ∧ True) (fun i => args.length - i) (fun i => [(33, .c (.int .i64 i)), (32, .c (.int .i64 (encNds args).length)), (31, .c (.sl 5 (encNds args))), (2, .ptr 2 0), (3, .ptr 3 0), (4, .ptr 4 0), (5, .ptr 5 0)]) (fun i => [(2, [.c (.int .i64 12), .c (.sl 2 (encTys [u, .mk U us]))]), (3, [.c (.int .i64 kind), .c (.int .i64 N), .c (.int .i64 P), .c (.str S), .c (.sl 5 (encNds args))]), (4, [.c (.int .i64 0), .c (.int .i64 0), .c (.int .i64 0), .c (.str []), .own .exact 7 [], .own .exact 2 [], .own .exact 5 []]), (5, [.c (.int .i64 (12)), .c (.int .i64 (1)), .c (.int .i64 0), .c (.str S), .own (.tok 5004 0) 7 (encVls (gRow (args.take i) 12 (1) [u, .mk U us] 0)), .own .exact 2 [], .own .exact 5 []])]) (fun _ => [(5004, 0)]) [2, 3, 4, 5, 5004] 0
          ⟨Nat.zero_le _, trivial⟩ ⟨.inl rfl, .inl rfl, .inl rfl, .inl rfl, .inl rfl, .inl rfl, .inl rfl, trivial⟩ ⟨rfl, rfl, rfl, (by rw [List.take_zero, grow_nil]; rfl), trivial⟩ ⟨rfl, trivial⟩ rfl rfl rfl ?_
        rintro i ⟨hi, _⟩ ih
        rcases get_or args i hi with ⟨x, hx, hm⟩ | he
        rotate_left
        · have hc := nds_end he
          subst he
          rw [List.take_length]
          clear ih
          repeat' (first | refine st ?_ | (refine AK.condS rfl (fun h => ?_) (fun h => ?_) <;> first | (cases h; done) | rw [h] | skip) | refine uQ hf rfl rfl ?_ | (refine uA rfl ?_ ?_ <;> (try (show (_ : Nat) * _ ≤ _; dsimp only))) | ((first | refine AOps.splitT rfl rfl rfl asm (fun h => ?_) | refine AOps.splitF rfl rfl rfl asm (fun h => ?_) | refine AOps.split rfl rfl rfl (fun h => ?_) (fun h => ?_)) <;> (fail_if_success (cases h; done)) <;> rw [h]))
          all_goals rfl
        have hc := nds_lt hx
        have h2 := lt_of_get hx
        have hq := hrec x hm (.mk U us) hu
        have hkid : gKid 12 1 [u, .mk U us] i = .mk U us := by simp [gKid]
        have hsn := gRow_snoc args 12 (1) [u, .mk U us] 0 i x hx
        rw [Nat.zero_add, hkid] at hsn
        rcases hy : gGuess x (.mk U us) with ⟨y1, y2, y3, y4, y5, y6, y7⟩
        rw [hy] at hq hsn
        have hl9 := gRow_len (args.take i) 12 (1) [u, .mk U us] 0
        rw [List.length_take] at hl9
        generalize gRow (args.take i) 12 (1) [u, .mk U us] 0 = acc at hsn hl9 ⊢
        obtain ⟨xk, xn, xp, xs, xa⟩ := x
        repeat' (first | refine st ?_ | (refine AK.condS rfl (fun h => ?_) (fun h => ?_) <;> first | (cases h; done) | rw [h] | skip) | refine uQ hf rfl rfl ?_ | refine uI rfl (i) rfl (nds_at hx) rfl ?_ | refine uI rfl (1) rfl (tys_at g1) rfl ?_ | refine uC rfl hq ?_ | (refine uA rfl ?_ ?_ <;> (try (show (_ : Nat) * _ ≤ _; dsimp only))) | ((first | refine AOps.splitT rfl rfl rfl asm (fun h => ?_) | refine AOps.splitF rfl rfl rfl asm (fun h => ?_) | refine AOps.split rfl rfl rfl (fun h => ?_) (fun h => ?_)) <;> (fail_if_success (cases h; done)) <;> rw [h]))
        · have h1 := encVls_length acc
          simp only [List.length_cons, List.length_nil]
          omega
        · have hap : encVls acc ++ [encVl (.mk y1 y2 y3 y4 y5 y6 y7)] = encVls (gRow (args.take (i + 1)) 12 (1) [u, .mk U us] 0) := by rw [hsn]; exact (encVls_append acc [_]).symm
          refine AK.ren [(2, 2), (3, 3), (4, 4), (5, 5)] [(5004, (0, some 5004))] (env' := [(33, .c (.int .i64 ((i + 1 : Nat) : Int))), (32, .c (.int .i64 (encNds args).length)), (31, .c (.sl 5 (encNds args))), (2, .ptr 2 0), (3, .ptr 3 0), (4, .ptr 4 0), (5, .ptr 5 0)])
            (bs' := [(2, [.c (.int .i64 12), .c (.sl 2 (encTys [u, .mk U us]))]), (3, [.c (.int .i64 kind), .c (.int .i64 N), .c (.int .i64 P), .c (.str S), .c (.sl 5 (encNds args))]), (4, [.c (.int .i64 0), .c (.int .i64 0), .c (.int .i64 0), .c (.str []), .own .exact 7 [], .own .exact 2 [], .own .exact 5 []]), (5, [.c (.int .i64 (12)), .c (.int .i64 (1)), .c (.int .i64 0), .c (.str S), .own (.tok 5004 0) 7 (encVls (gRow (args.take (i + 1)) 12 (1) [u, .mk U us] 0)), .own .exact 2 [], .own .exact 5 []])]) (ts' := [(5004, 0)]) (us' := [2, 3, 4, 5, 5004])
            ⟨⟨_, rfl, .inl (succ64' (i := i) (by omega))⟩, ⟨_, rfl, .inl rfl⟩, ⟨_, rfl, .inl rfl⟩, ⟨_, rfl, ⟨_, rfl, rfl⟩⟩, ⟨_, rfl, ⟨_, rfl, rfl⟩⟩, ⟨_, rfl, ⟨_, rfl, rfl⟩⟩, ⟨_, rfl, ⟨_, rfl, rfl⟩⟩, trivial⟩ ⟨⟨_, _, rfl, rfl, ⟨_, _, rfl, .inl rfl, ⟨_, _, rfl, .inl rfl, rfl⟩⟩⟩, ⟨_, _, rfl, rfl, ⟨_, _, rfl, .inl rfl, ⟨_, _, rfl, .inl rfl, ⟨_, _, rfl, .inl rfl, ⟨_, _, rfl, .inl rfl, ⟨_, _, rfl, .inl rfl, rfl⟩⟩⟩⟩⟩⟩, ⟨_, _, rfl, rfl, ⟨_, _, rfl, .inl rfl, ⟨_, _, rfl, .inl rfl, ⟨_, _, rfl, .inl rfl, ⟨_, _, rfl, .inl rfl, ⟨_, _, rfl, rfl, ⟨_, _, rfl, rfl, ⟨_, _, rfl, rfl, rfl⟩⟩⟩⟩⟩⟩⟩⟩, ⟨_, _, rfl, rfl, ⟨_, _, rfl, .inl rfl, ⟨_, _, rfl, .inl rfl, ⟨_, _, rfl, .inl rfl, ⟨_, _, rfl, .inl rfl, ⟨_, _, rfl, ⟨_, rfl, .inr ⟨_, _, rfl, rfl, congrArg (AV.own (.tok 5004 1) 7) hap⟩⟩, ⟨_, _, rfl, rfl, ⟨_, _, rfl, rfl, rfl⟩⟩⟩⟩⟩⟩⟩⟩, trivial⟩ rfl ?_
          exact ih (i + 1) ⟨h2, trivial⟩ (by show args.length - (i + 1) < args.length - i; omega)
      have e0 : (IntKind.i64.wrap (P - 24) == 0) = false := by simpa using v0
      have e1 : (IntKind.i64.wrap (P - 24) == 1) = false := by simpa using v1
      rcases get_or args 0 (Nat.zero_le _) with ⟨x, hx, hm⟩ | he
      · have hc := nds_lt hx
        have hl := lt_of_get hx
        rw [gg_no (T := 12) (ts := [u, u']) (by simp only [gOk, decide_eq_false_iff_not]; rw [gN_12]; omega)]
        clear hrec
        obtain ⟨xk, xn, xp, xs, xa⟩ := x
        refine QCalls.of Try.func124 rfl (fun args w => Try.call124 args w) (Nat.le_of_ble_eq_true rfl) [(0, .c (encTy (.mk 12 [u, u']))), (1, .c (encNd (.mk kind N P S args)))] rfl fun β hβ => ?_; have hf := Try.func124
        repeat' (first | refine st ?_ | (refine AK.condS rfl (fun h => ?_) (fun h => ?_) <;> first | (cases h; done) | rw [h] | skip) | refine uQ hf rfl rfl ?_ | (refine uA rfl ?_ ?_ <;> (try (show (_ : Nat) * _ ≤ _; dsimp only))) | ((first | refine AOps.splitT rfl rfl rfl asm (fun h => ?_) | refine AOps.splitF rfl rfl rfl asm (fun h => ?_) | refine AOps.split rfl rfl rfl (fun h => ?_) (fun h => ?_)) <;> (fail_if_success (cases h; done)) <;> rw [h]))
        refine AK.loopE (α := Unit) (fun _ => True) (fun _ => 0) (fun _ => [(33, .c (.int .i64 (0 : Nat))), (32, .c (.int .i64 (encNds args).length)), (31, .c (.sl 5 (encNds args))), (2, .ptr 2 0), (3, .ptr 3 0), (4, .ptr 4 0), (5, .ptr 5 0)]) (fun _ => [(2, [.c (.int .i64 12), .c (.sl 2 (encTys [u, u']))]), (3, [.c (.int .i64 kind), .c (.int .i64 N), .c (.int .i64 P), .c (.str S), .c (.sl 5 (encNds args))]), (4, [.c (.int .i64 0), .c (.int .i64 0), .c (.int .i64 0), .c (.str []), .own .exact 7 [], .own .exact 2 [], .own .exact 5 []]), (5, [.c (.int .i64 (12)), .c (.int .i64 (IntKind.i64.wrap (P - 24))), .c (.int .i64 0), .c (.str S), .own .exact 7 [], .own .exact 2 [], .own .exact 5 []])]) (fun _ => []) [2, 3, 4, 5] ()
          trivial ⟨.inl rfl, .inl rfl, .inl rfl, .inl rfl, .inl rfl, .inl rfl, .inl rfl, trivial⟩ ⟨rfl, rfl, rfl, rfl, trivial⟩ trivial rfl rfl rfl ?_
        intro _ _ _
        repeat' (first | refine st ?_ | (refine AK.condS rfl (fun h => ?_) (fun h => ?_) <;> first | (cases h; done) | rw [h] | skip) | refine uQ hf rfl rfl ?_ | refine uI rfl (0) rfl (nds_at hx) rfl ?_ | (refine uA rfl ?_ ?_ <;> (try (show (_ : Nat) * _ ≤ _; dsimp only))) | ((first | refine AOps.splitT rfl rfl rfl asm (fun h => ?_) | refine AOps.splitF rfl rfl rfl asm (fun h => ?_) | refine AOps.split rfl rfl rfl (fun h => ?_) (fun h => ?_)) <;> (fail_if_success (cases h; done)) <;> rw [h]))
        all_goals first | rfl | (show (_ : CV) = _; rw [gN_12]; rfl)
      · have hc := nds_end he
        obtain rfl : args = [] := List.length_eq_zero_iff.1 he.symm
        rw [gg_yes (T := 12) (ts := [u, u']) (by simp [gOk]), grow_nil]
        clear hrec
        have hx := 0
        refine QCalls.of Try.func124 rfl (fun args w => Try.call124 args w) (Nat.le_of_ble_eq_true rfl) [(0, .c (encTy (.mk 12 [u, u']))), (1, .c (encNd (.mk kind N P S [])))] rfl fun β hβ => ?_; have hf := Try.func124
        repeat' (first | refine st ?_ | (refine AK.condS rfl (fun h => ?_) (fun h => ?_) <;> first | (cases h; done) | rw [h] | skip) | refine uQ hf rfl rfl ?_ | (refine uA rfl ?_ ?_ <;> (try (show (_ : Nat) * _ ≤ _; dsimp only))) | ((first | refine AOps.splitT rfl rfl rfl asm (fun h => ?_) | refine AOps.splitF rfl rfl rfl asm (fun h => ?_) | refine AOps.split rfl rfl rfl (fun h => ?_) (fun h => ?_)) <;> (fail_if_success (cases h; done)) <;> rw [h]))
        refine AK.loopE (α := Unit) (fun _ => True) (fun _ => 0) (fun _ => [(33, .c (.int .i64 (0 : Nat))), (32, .c (.int .i64 (encNds []).length)), (31, .c (.sl 5 (encNds []))), (2, .ptr 2 0), (3, .ptr 3 0), (4, .ptr 4 0), (5, .ptr 5 0)]) (fun _ => [(2, [.c (.int .i64 12), .c (.sl 2 (encTys [u, u']))]), (3, [.c (.int .i64 kind), .c (.int .i64 N), .c (.int .i64 P), .c (.str S), .c (.sl 5 (encNds []))]), (4, [.c (.int .i64 0), .c (.int .i64 0), .c (.int .i64 0), .c (.str []), .own .exact 7 [], .own .exact 2 [], .own .exact 5 []]), (5, [.c (.int .i64 (12)), .c (.int .i64 (IntKind.i64.wrap (P - 24))), .c (.int .i64 0), .c (.str S), .own .exact 7 [], .own .exact 2 [], .own .exact 5 []])]) (fun _ => []) [2, 3, 4, 5] ()
          trivial ⟨.inl rfl, .inl rfl, .inl rfl, .inl rfl, .inl rfl, .inl rfl, .inl rfl, trivial⟩ ⟨rfl, rfl, rfl, rfl, trivial⟩ trivial rfl rfl rfl ?_
        intro _ _ _
        repeat' (first | refine st ?_ | (refine AK.condS rfl (fun h => ?_) (fun h => ?_) <;> first | (cases h; done) | rw [h] | skip) | refine uQ hf rfl rfl ?_ | (refine uA rfl ?_ ?_ <;> (try (show (_ : Nat) * _ ≤ _; dsimp only))) | ((first | refine AOps.splitT rfl rfl rfl asm (fun h => ?_) | refine AOps.splitF rfl rfl rfl asm (fun h => ?_) | refine AOps.split rfl rfl rfl (fun h => ?_) (fun h => ?_)) <;> (fail_if_success (cases h; done)) <;> rw [h]))
        all_goals first | rfl | (show (_ : CV) = _; rw [gN_12]; rfl)
    have q2 : (T == 2) = false := by simpa
    have q9 : (T == 9) = false := by simpa
    have q10 : (T == 10) = false := by simpa
    have q11 : (T == 11) = false := by simpa
    have q12 : (T == 12) = false := by simpa
    have q13 : (T == 13) = false := by simpa
    have hno : T ≠ 2 ∧ T ≠ 12 := ⟨by assumption, by assumption⟩
    rcases get_or args 0 (Nat.zero_le _) with ⟨x, hx, hm⟩ | he
    · have hc := nds_lt hx
      have hl := lt_of_get hx
      rw [gg_no (T := T) (ts := ts) (by simp only [gOk, decide_eq_false_iff_not]; omega)]
      clear hrec
      obtain ⟨xk, xn, xp, xs, xa⟩ := x
      refine QCalls.of Try.func124 rfl (fun args w => Try.call124 args w) (Nat.le_of_ble_eq_true rfl) [(0, .c (encTy (.mk T ts))), (1, .c (encNd (.mk kind N P S args)))] rfl fun β hβ => ?_; have hf := Try.func124
      repeat' (first | refine st ?_ | (refine AK.condS rfl (fun h => ?_) (fun h => ?_) <;> first | (cases h; done) | rw [h] | skip) | refine uQ hf rfl rfl ?_ | (refine uA rfl ?_ ?_ <;> (try (show (_ : Nat) * _ ≤ _; dsimp only))) | ((first | refine AOps.splitT rfl rfl rfl asm (fun h => ?_) | refine AOps.splitF rfl rfl rfl asm (fun h => ?_) | refine AOps.split rfl rfl rfl (fun h => ?_) (fun h => ?_)) <;> (fail_if_success (cases h; done)) <;> rw [h]))
      refine AK.loopE (α := Unit) (fun _ => True) (fun _ => 0) (fun _ => [(33, .c (.int .i64 (0 : Nat))), (32, .c (.int .i64 (encNds args).length)), (31, .c (.sl 5 (encNds args))), (2, .ptr 2 0), (3, .ptr 3 0), (4, .ptr 4 0), (5, .ptr 5 0)]) (fun _ => [(2, [.c (.int .i64 T), .c (.sl 2 (encTys ts))]), (3, [.c (.int .i64 kind), .c (.int .i64 N), .c (.int .i64 P), .c (.str S), .c (.sl 5 (encNds args))]), (4, [.c (.int .i64 0), .c (.int .i64 0), .c (.int .i64 0), .c (.str []), .own .exact 7 [], .own .exact 2 [], .own .exact 5 []]), (5, [.c (.int .i64 (T)), .c (.int .i64 (N)), .c (.int .i64 0), .c (.str S), .own .exact 7 [], .own .exact 2 [], .own .exact 5 []])]) (fun _ => []) [2, 3, 4, 5] ()
        trivial ⟨.inl rfl, .inl rfl, .inl rfl, .inl rfl, .inl rfl, .inl rfl, .inl rfl, trivial⟩ ⟨rfl, rfl, rfl, rfl, trivial⟩ trivial rfl rfl rfl ?_
      intro _ _ _
      repeat' (first | refine st ?_ | (refine AK.condS rfl (fun h => ?_) (fun h => ?_) <;> first | (cases h; done) | rw [h] | skip) | refine uQ hf rfl rfl ?_ | refine uI rfl (0) rfl (nds_at hx) rfl ?_ | (refine uA rfl ?_ ?_ <;> (try (show (_ : Nat) * _ ≤ _; dsimp only))) | ((first | refine AOps.splitT rfl rfl rfl asm (fun h => ?_) | refine AOps.splitF rfl rfl rfl asm (fun h => ?_) | refine AOps.split rfl rfl rfl (fun h => ?_) (fun h => ?_)) <;> (fail_if_success (cases h; done)) <;> rw [h]))
      all_goals first | rfl | (show (_ : CV) = _; rw [gN_o N P hno]; rfl)
    · have hc := nds_end he
      obtain rfl : args = [] := List.length_eq_zero_iff.1 he.symm
      rw [gg_yes (T := T) (ts := ts) (by simp [gOk]), grow_nil]
      clear hrec
      have hx := 0
      refine QCalls.of Try.func124 rfl (fun args w => Try.call124 args w) (Nat.le_of_ble_eq_true rfl) [(0, .c (encTy (.mk T ts))), (1, .c (encNd (.mk kind N P S [])))] rfl fun β hβ => ?_; have hf := Try.func124
      repeat' (first | refine st ?_ | (refine AK.condS rfl (fun h => ?_) (fun h => ?_) <;> first | (cases h; done) | rw [h] | skip) | refine uQ hf rfl rfl ?_ | (refine uA rfl ?_ ?_ <;> (try (show (_ : Nat) * _ ≤ _; dsimp only))) | ((first | refine AOps.splitT rfl rfl rfl asm (fun h => ?_) | refine AOps.splitF rfl rfl rfl asm (fun h => ?_) | refine AOps.split rfl rfl rfl (fun h => ?_) (fun h => ?_)) <;> (fail_if_success (cases h; done)) <;> rw [h]))
      refine AK.loopE (α := Unit) (fun _ => True) (fun _ => 0) (fun _ => [(33, .c (.int .i64 (0 : Nat))), (32, .c (.int .i64 (encNds []).length)), (31, .c (.sl 5 (encNds []))), (2, .ptr 2 0), (3, .ptr 3 0), (4, .ptr 4 0), (5, .ptr 5 0)]) (fun _ => [(2, [.c (.int .i64 T), .c (.sl 2 (encTys ts))]), (3, [.c (.int .i64 kind), .c (.int .i64 N), .c (.int .i64 P), .c (.str S), .c (.sl 5 (encNds []))]), (4, [.c (.int .i64 0), .c (.int .i64 0), .c (.int .i64 0), .c (.str []), .own .exact 7 [], .own .exact 2 [], .own .exact 5 []]), (5, [.c (.int .i64 (T)), .c (.int .i64 (N)), .c (.int .i64 0), .c (.str S), .own .exact 7 [], .own .exact 2 [], .own .exact 5 []])]) (fun _ => []) [2, 3, 4, 5] ()
        trivial ⟨.inl rfl, .inl rfl, .inl rfl, .inl rfl, .inl rfl, .inl rfl, .inl rfl, trivial⟩ ⟨rfl, rfl, rfl, rfl, trivial⟩ trivial rfl rfl rfl ?_
      intro _ _ _
      repeat' (first | refine st ?_ | (refine AK.condS rfl (fun h => ?_) (fun h => ?_) <;> first | (cases h; done) | rw [h] | skip) | refine uQ hf rfl rfl ?_ | (refine uA rfl ?_ ?_ <;> (try (show (_ : Nat) * _ ≤ _; dsimp only))) | ((first | refine AOps.splitT rfl rfl rfl asm (fun h => ?_) | refine AOps.splitF rfl rfl rfl asm (fun h => ?_) | refine AOps.split rfl rfl rfl (fun h => ?_) (fun h => ?_)) <;> (fail_if_success (cases h; done)) <;> rw [h]))
      all_goals first | rfl | (show (_ : CV) = _; rw [gN_o N P hno]; rfl)
termination_by n => SizeOf.sizeOf n
decreasing_by
  have := List.sizeOf_lt_of_mem hx
  simp at this ⊢; omega
end Go.Proofs

set_option linter.unusedVariables false
set_option linter.unusedSimpArgs false
namespace Go.Abs
def encDeep : Nd × Int → CV
  | (.mk k n p s args, d) => .agg [.int .i64 k, .int .i64 n, .int .i64 p, .str s, .sl 5 (encNds args), .int .i64 d]
def encDeeps (l : List (Nd × Int)) : List CV := l.map encDeep
theorem deep_cells (x : Nd × Int) : (encDeep x).cells.length = 6 := by
  obtain ⟨⟨k, n, p, s, args⟩, d⟩ := x; rfl
theorem deeps_cells (l : List (Nd × Int)) : ∀ r ∈ encDeeps l, r.cells.length = 6 := by
  intro r hr
  obtain ⟨x, _, rfl⟩ := List.mem_map.1 hr
  exact deep_cells x
theorem deeps_flat (l : List (Nd × Int)) : (flatC (encDeeps l)).length = l.length * 6 := by
  rw [flatC_length (deeps_cells l)]; simp [encDeeps]
theorem deeps_len (l : List (Nd × Int)) : (encDeeps l).length = l.length := by simp [encDeeps]
theorem deeps_shape : ∀ (l : List (Nd × Int)), rowsShape 6 (encDeeps l) = true
  | [] => rfl
  | (.mk k n p s args, d) :: l => by
    have ih := deeps_shape l
    simp only [encDeeps, List.map_cons, rowsShape] at ih ⊢
    rw [show rowShape 6 (encDeep (.mk k n p s args, d)) = true from rfl]
    exact ih
theorem deeps_append (a b : List (Nd × Int)) : encDeeps (a ++ b) = encDeeps a ++ encDeeps b := by simp [encDeeps]
theorem dropN_of {α : Type} : ∀ (k : Nat) (l : List α), k ≤ l.length → dropN k l = some (l.drop k)
  | 0, l, _ => by simp [dropN]
  | k + 1, [], h => by simp at h
  | k + 1, x :: l, h => by
    simp only [dropN, List.drop_succ_cons]
    exact dropN_of k l (by simpa using h)
theorem rowCells_append (a b : List CV) : rowCells (a ++ b) = rowCells a ++ rowCells b := by simp [rowCells, flatC_append]
theorem rowCells_len (l : List (Nd × Int)) : (rowCells (encDeeps l)).length = l.length * 6 := by
  simp only [rowCells, List.length_map]; exact deeps_flat l
theorem deeps_drop (k : Nat) (l : List (Nd × Int)) (h : k ≤ l.length) : dropN (0 + k * 6) (rowCells (encDeeps l)) = some (rowCells (encDeeps (l.drop k)) ++ []) := by
  have e : rowCells (encDeeps l) = rowCells (encDeeps (l.take k)) ++ rowCells (encDeeps (l.drop k)) := by
    rw [← rowCells_append, ← deeps_append, List.take_append_drop]
  have hl : (rowCells (encDeeps (l.take k))).length = 0 + k * 6 := by rw [rowCells_len, List.length_take]; rw [Nat.min_eq_left h, Nat.zero_add]
  rw [dropN_of _ _ (by rw [rowCells_len]; omega), e, List.append_nil, ← hl, List.drop_left]
theorem deeps_at {l : List (Nd × Int)} {i : Nat} {k n p : Int} {s : List UInt8} {args : List Nd} {d : Int} (h : l[i]? = some (.mk k n p s args, d)) :
    dropN (0 + i * 6) (rowCells (encDeeps l)) = some (AV.c (.int .i64 k) :: .c (.int .i64 n) :: .c (.int .i64 p) :: .c (.str s) :: .c (.sl 5 (encNds args)) :: .c (.int .i64 d) :: (rowCells (encDeeps (l.drop (i + 1))) ++ [])) := by
  have hl : i < l.length := (List.getElem?_eq_some_iff.1 h).1
  rw [deeps_drop i l (by omega)]
  have : l.drop i = (.mk k n p s args, d) :: l.drop (i + 1) := by
    rw [List.drop_eq_getElem_cons hl]
    rw [List.getElem?_eq_getElem hl] at h
    rw [Option.some.inj h]
  rw [this]; rfl

/-- The first of them that is wrong. -/
def wl : List (Nd × Int) → Int
  | [] => 0
  | (x, d) :: r => if wrong x d = 0 then wl r else wrong x d
def cnt : List (Nd × Int) → Nat
  | [] => 0
  | (x, _) :: r => many x + cnt r
def kidsAt (args : List Nd) (d : Int) : List (Nd × Int) := args.map fun x => (x, d)
theorem wl_kids (d : Int) (r : List (Nd × Int)) : ∀ (args : List Nd), wl (kidsAt args d ++ r) = if wrongs args d = 0 then wl r else wrongs args d
  | [] => by simp [kidsAt, wrongs]
  | x :: l => by
    have ih := wl_kids d r l
    have hl : wl (kidsAt (x :: l) d ++ r) = if wrong x d = 0 then wl (kidsAt l d ++ r) else wrong x d := rfl
    rw [hl]
    by_cases h : wrong x d = 0
    · have hw : wrongs (x :: l) d = wrongs l d := by simp only [wrongs, if_pos h]
      rw [hw, if_pos h]; exact ih
    · have hw : wrongs (x :: l) d = wrong x d := by simp only [wrongs, if_neg h]
      rw [hw, if_neg h, if_neg h]
theorem cnt_kids (d : Int) (r : List (Nd × Int)) : ∀ (args : List Nd), cnt (kidsAt args d ++ r) = manys args + cnt r
  | [] => by simp [kidsAt, manys]
  | x :: l => by
    have ih := cnt_kids d r l
    simp only [kidsAt, List.map_cons, List.cons_append, cnt, manys] at ih ⊢
    omega
theorem wl_step {kind n p : Int} {s : List UInt8} {args : List Nd} {d : Int} {r : List (Nd × Int)} (h : wrong1 kind n p s args.length d = 0) : wl ((.mk kind n p s args, d) :: r) = wl (kidsAt args (d + 1) ++ r) := by
  rw [wl_kids]; simp only [wl, wrong, h, if_true]
theorem wl_bad {kind n p : Int} {s : List UInt8} {args : List Nd} {d e : Int} {r : List (Nd × Int)} (h : wrong1 kind n p s args.length d = e) (he : e ≠ 0) : wl ((.mk kind n p s args, d) :: r) = e := by
  simp only [wl, wrong, h, if_neg he]
theorem cnt_step (kind n p : Int) (s : List UInt8) (args : List Nd) (d : Int) (r : List (Nd × Int)) : cnt ((.mk kind n p s args, d) :: r) = 1 + cnt (kidsAt args (d + 1) ++ r) := by
  rw [cnt_kids]; simp only [cnt, many]; omega
theorem cnt_len : ∀ l : List (Nd × Int), l.length ≤ cnt l
  | [] => Nat.le_refl _
  | (x, d) :: l => by
    have := cnt_len l
    have h1 : 1 ≤ many x := by cases x; simp [many]
    simp only [List.length_cons, cnt]; omega
mutual
theorem many_size : ∀ t : Nd, many t ≤ ndSize t
  | .mk _ _ _ s args => by have := manys_size args; simp only [many, ndSize]; omega
theorem manys_size : ∀ l : List Nd, manys l ≤ ndsSize l
  | [] => Nat.le_refl _
  | t :: l => by have := many_size t; have := manys_size l; simp only [manys, ndsSize]; omega
end
theorem tGoodN_eq (n : Nd) : tGoodN n = if wrong n 1 = 0 then (if 300 < many n then 4 else 0) else wrong n 1 := rfl
theorem convL_c (ρ : Ren) (ts : List (Nat × Nat)) : ∀ (cs : List CV), ConvL ρ ts (cs.map AV.c) (cs.map AV.c)
  | [] => by simp [ConvL]
  | c :: cs => by simp only [List.map_cons, ConvL]; exact ⟨_, _, rfl, by rw [Conv]; exact .inl rfl, convL_c ρ ts cs⟩
end Go.Abs

set_option linter.unusedVariables false
set_option linter.unusedSimpArgs false
namespace Go.Abs

/-- Seven bits each, the lowest first. -/
def valT : List UInt8 → Nat
  | [] => 0
  | b :: l => b.toNat % 128 + 128 * valT l
/-- Likewise, six bits first. -/
def val : List UInt8 → Nat
  | [] => 0
  | b :: l => b.toNat % 64 + 64 * valT l
def wtT (i : Nat) : Nat := 128 ^ i
def wt : Nat → Nat
  | 0 => 1
  | i + 1 => 64 * 128 ^ i
theorem valT_snoc : ∀ (l : List UInt8) (b : UInt8), valT (l ++ [b]) = valT l + b.toNat % 128 * 128 ^ l.length
  | [], b => by simp [valT]
  | x :: l, b => by
    simp only [List.cons_append, valT, valT_snoc l b, List.length_cons, Nat.pow_succ, Nat.mul_add]
    rw [show 128 * (b.toNat % 128 * 128 ^ l.length) = b.toNat % 128 * (128 ^ l.length * 128) by rw [Nat.mul_comm (128 ^ l.length) 128, ← Nat.mul_assoc, ← Nat.mul_assoc, Nat.mul_comm 128 (b.toNat % 128)]]
    omega
theorem val_first (b : UInt8) : val [b] = b.toNat % 64 := by simp [val, valT]
theorem val_snoc (l : List UInt8) (b : UInt8) (h : l ≠ []) : val (l ++ [b]) = val l + b.toNat % 128 * wt l.length := by
  cases l with
  | nil => exact absurd rfl h
  | cons x l =>
    simp only [List.cons_append, val, valT_snoc, List.length_cons, wt, Nat.mul_add]
    rw [show 64 * (b.toNat % 128 * 128 ^ l.length) = b.toNat % 128 * (64 * 128 ^ l.length) by rw [← Nat.mul_assoc, ← Nat.mul_assoc, Nat.mul_comm 64 (b.toNat % 128)]]
    omega
theorem valT_lt : ∀ (l : List UInt8), valT l < 128 ^ l.length
  | [] => by simp [valT]
  | b :: l => by
    have := valT_lt l
    simp only [valT, List.length_cons, Nat.pow_succ]
    have : b.toNat % 128 < 128 := Nat.mod_lt _ (by omega)
    omega
theorem val_lt : ∀ (l : List UInt8), val l < wt l.length
  | [] => by simp [val, wt]
  | b :: l => by
    have := valT_lt l
    simp only [val, List.length_cons, wt]
    have : b.toNat % 64 < 64 := Nat.mod_lt _ (by omega)
    omega

/-- Bytes that go on, then one that does not. -/
def endB : List UInt8 → Prop
  | [] => False
  | [b] => b.toNat < 128
  | b :: l => 128 ≤ b.toNat ∧ endB l
theorem endB_cons {b : UInt8} {l : List UInt8} (h : l ≠ []) : endB (b :: l) ↔ 128 ≤ b.toNat ∧ endB l := by
  cases l with
  | nil => exact absurd rfl h
  | cons x l => rfl
theorem putB_ne (c m : Nat) : putB c m ≠ [] := by rw [putB]; split <;> simp
theorem putB_end : ∀ (m c : Nat), c < 128 → endB (putB c m)
  | m, c, hc => by
    by_cases h : m = 0
    · subst h; rw [putB_zero]
      show (byteOf (c : Nat)).toNat < 128
      rw [byteOf_nat c (by omega)]; exact hc
    · rw [putB_more c m h, endB_cons (putB_ne _ _), byteOf_nat _ (by omega)]
      exact ⟨by omega, putB_end (m / 128) (m % 128) (Nat.mod_lt _ (by omega))⟩
termination_by m => m
decreasing_by omega
theorem putB_valT : ∀ (m c : Nat), c < 128 → valT (putB c m) = c + 128 * m
  | m, c, hc => by
    by_cases h : m = 0
    · subst h; rw [putB_zero]
      simp only [valT, byteOf_nat c (by omega)]; omega
    · rw [putB_more c m h]
      simp only [valT]
      rw [byteOf_nat _ (by omega), putB_valT (m / 128) (m % 128) (Nat.mod_lt _ (by omega))]
      omega
termination_by m => m
decreasing_by omega
theorem putB_len : ∀ (d m c : Nat), m < 128 ^ d → (putB c m).length ≤ d + 1
  | d, m, c, hm => by
    by_cases h : m = 0
    · subst h; rw [putB_zero]; simp
    · rw [putB_more c m h]
      cases d with
      | zero => simp at hm; omega
      | succ d =>
        have := putB_len d (m / 128) (m % 128) (by rw [Nat.pow_succ] at hm; omega)
        simp only [List.length_cons]; omega
/-- The first byte tells the sign. -/
def neg1 : List UInt8 → Bool
  | [] => false
  | b :: _ => decide (b.toNat / 64 % 2 = 1)
theorem numB_facts (n : Int) (h1 : -maxI ≤ n) (h2 : n ≤ maxI) : endB (numB n) ∧ val (numB n) = n.natAbs ∧ neg1 (numB n) = decide (n < 0) ∧ (numB n).length ≤ 9 := by
  unfold maxI at h1 h2
  have hlen : (numB n).length ≤ 9 := putB_len 8 _ _ (by omega)
  have hend : endB (numB n) := putB_end _ _ (by split <;> omega)
  refine ⟨hend, ?_, ?_, hlen⟩
  · unfold numB
    have hc : (if n < 0 then 64 else 0) + n.natAbs % 64 < 128 := by split <;> omega
    by_cases h : n.natAbs / 64 = 0
    · rw [h, putB_zero, val_first, byteOf_nat _ (by omega)]; split <;> omega
    · rw [putB_more _ _ h]
      simp only [val]
      rw [byteOf_nat _ (by omega), putB_valT _ _ (Nat.mod_lt _ (by omega))]
      split <;> omega
  · unfold numB
    have hc : (if n < 0 then 64 else 0) + n.natAbs % 64 < 128 := by split <;> omega
    by_cases h : n.natAbs / 64 = 0
    · rw [h, putB_zero]
      simp only [neg1]
      rw [byteOf_nat _ (by omega)]
      by_cases hn : n < 0 <;> simp [hn] <;> omega
    · rw [putB_more _ _ h]
      simp only [neg1]
      rw [byteOf_nat _ (by omega)]
      by_cases hn : n < 0 <;> simp [hn] <;> omega

theorem endB_app : ∀ (p q r t : List UInt8), endB p → endB q → p ++ r = q ++ t → p = q
  | [], _, _, _, h, _, _ => h.elim
  | _, [], _, _, _, h, _ => h.elim
  | [b], [c], r, t, _, _, e => by simp at e; rw [e.1]
  | [b], c :: d :: q, r, t, h, h', e => by
    simp at e; have h1 : b.toNat < 128 := h; have h2 := h'.1; rw [e.1] at h1; omega
  | b :: d :: p, [c], r, t, h, h', e => by
    simp at e; have h1 := h.1; have h2 : c.toNat < 128 := h'; rw [e.1] at h1; omega
  | b :: d :: p, c :: d' :: q, r, t, h, h', e => by
    simp only [List.cons_append, List.cons.injEq] at e
    have := endB_app (d :: p) (d' :: q) r t h.2 h'.2 (by simp only [List.cons_append, List.cons.injEq]; exact e.2)
    rw [e.1, this]
/-- All of them go on. -/
def goB (l : List UInt8) : Prop := ∀ b ∈ l, 128 ≤ b.toNat
theorem endB_of : ∀ (l : List UInt8) (b : UInt8), goB l → b.toNat < 128 → endB (l ++ [b])
  | [], b, _, h => h
  | x :: l, b, hg, h => by
    rw [List.cons_append, endB_cons (by simp)]
    exact ⟨hg x (by simp), endB_of l b (fun y hy => hg y (by simp [hy])) h⟩
/-- Where the first bytes all go on, a number is longer. -/
theorem endB_longer : ∀ (p l r t : List UInt8), endB p → goB l → p ++ r = l ++ t → l.length < p.length
  | [], _, _, _, h, _, _ => h.elim
  | b :: p, [], _, _, _, _, _ => by simp
  | [b], c :: l, r, t, h, hg, e => by
    simp at e; have h1 : b.toNat < 128 := h; have := hg c (by simp); rw [e.1] at h1; omega
  | b :: d :: p, c :: l, r, t, h, hg, e => by
    simp only [List.cons_append, List.cons.injEq] at e
    have := endB_longer (d :: p) l r t h.2 (fun y hy => hg y (by simp [hy])) (by simp only [List.cons_append]; exact e.2)
    simp only [List.length_cons] at this ⊢; omega
/-- What numberOf of the reference answers. -/
def nOf (s : List UInt8) : Int × Int := match takeNum s with
  | none => (0, 0)
  | some (n, r) => (n, (s.length : Int) - r.length)
theorem nOf_put {n : Int} {r s : List UInt8} (h1 : -maxI ≤ n) (h2 : n ≤ maxI) (e : s = numB n ++ r) : nOf s = (n, ((numB n).length : Int)) := by
  unfold nOf; rw [e, takeNum_put n r h1 h2]; simp
theorem nOf_cases (s : List UInt8) : nOf s = (0, 0) ∧ takeNum s = none ∨ ∃ n r, takeNum s = some (n, r) ∧ s = numB n ++ r ∧ -maxI ≤ n ∧ n ≤ maxI ∧ nOf s = (n, ((numB n).length : Int)) := by
  cases h : takeNum s with
  | none => left; exact ⟨by unfold nOf; rw [h], rfl⟩
  | some z =>
    obtain ⟨n, r⟩ := z
    obtain ⟨e, h1, h2⟩ := takeNum_some h
    right; exact ⟨n, r, rfl, e, h1, h2, nOf_put h1 h2 e⟩
/-- The bytes read so far all go on, and are too many: none. -/
theorem nOf_long {s l t : List UInt8} (e : s = l ++ t) (hg : goB l) (h : 9 ≤ l.length ∨ t = []) : nOf s = (0, 0) := by
  rcases nOf_cases s with h' | ⟨n, r, _, e', h1, h2, _⟩
  · exact h'.1
  · exfalso
    have f := numB_facts n h1 h2
    have := endB_longer (numB n) l r t f.1 hg (by rw [← e, ← e'])
    rcases h with h | rfl
    · have := f.2.2.2; omega
    · have h3 : (numB n ++ r).length = (l ++ []).length := by rw [← e, ← e']
      simp at h3; omega
/-- The ninth byte has too much in it: none. -/
theorem nOf_big {s l t : List UInt8} {b : UInt8} (e : s = l ++ b :: t) (hg : goB l) (h8 : l.length = 8) (hb : 63 < b.toNat % 128) : nOf s = (0, 0) := by
  rcases nOf_cases s with h' | ⟨n, r, _, e', h1, h2, _⟩
  · exact h'.1
  · exfalso
    have f := numB_facts n h1 h2
    have hl := endB_longer (numB n) l r (b :: t) f.1 hg (by rw [← e, ← e'])
    have h9 : (numB n).length = 9 := by have := f.2.2.2; omega
    have hp : numB n = l ++ [b] := by
      have h3 : (numB n ++ r).take 9 = (l ++ b :: t).take 9 := by rw [← e, ← e']
      rw [List.take_append_of_le_length (by omega), List.take_of_length_le (by omega)] at h3
      rw [h3, List.take_append, h8]; simp
      rw [List.take_of_length_le (by omega)]
    have hv := f.2.1
    rw [hp, val_snoc l b (by intro h; rw [h] at h8; simp at h8), h8] at hv
    simp only [wt] at hv
    unfold maxI at h1 h2
    omega
/-- The first byte that does not go on ends the number, if there is one. -/
theorem nOf_end {s l t : List UInt8} {b : UInt8} (e : s = l ++ b :: t) (hg : goB l) (hb : b.toNat < 128) {n : Int} (hn : n = if neg1 (l ++ [b]) = true then -(val (l ++ [b]) : Int) else val (l ++ [b])) :
    nOf s = if (-maxI ≤ n ∧ n ≤ maxI) ∧ numB n = l ++ [b] then (n, (l.length : Int) + 1) else (0, 0) := by
  have he := endB_of l b hg hb
  by_cases h : (-maxI ≤ n ∧ n ≤ maxI) ∧ numB n = l ++ [b]
  · rw [if_pos h, nOf_put (r := t) h.1.1 h.1.2 (by rw [h.2, e]; simp), h.2]; simp
  · rw [if_neg h]
    rcases nOf_cases s with h' | ⟨m, r, _, e', h1, h2, _⟩
    · exact h'.1
    · exfalso
      have f := numB_facts m h1 h2
      have hp : numB m = l ++ [b] := endB_app _ _ r t f.1 he (by rw [← e', e]; simp)
      rw [← hp, f.2.1, f.2.2.1] at hn
      have : n = m := by
        rw [hn]; by_cases hm : m < 0 <;> simp [hm] <;> omega
      subst this
      exact h ⟨⟨h1, h2⟩, hp⟩
end Go.Abs

set_option linter.unusedVariables false
set_option linter.unusedSimpArgs false
namespace Go.Proofs
open Go.Abs
attribute [local irreducible] AK AOps QCalls

theorem neg64 (n : Int) (h : I64 n) : IntKind.i64.wrap (0 - n) = if n = -9223372036854775808 then n else -n := by
  split
  · rename_i h1; subst h1; decide
  · rw [w64 (by omega) (by omega)]; omega

theorem rIn_calls (n : Int) (hn : I64 n) : QCalls Try.prog Try.X 40 [.int .i64 n] (.bool (nIn n)) := by
  refine QCalls.of Try.func40 rfl (fun args w => Try.call40 args w) (Nat.le_of_ble_eq_true rfl) [(0, .c (.int .i64 n))] rfl fun β hβ => ?_; have hf := Try.func40
  repeat' (first | refine st ?_ | refine uQ hf rfl rfl ?_ | ((first | refine AOps.splitT rfl rfl rfl asm (fun h => ?_) | refine AOps.splitF rfl rfl rfl asm (fun h => ?_) | refine AOps.split rfl rfl rfl (fun h => ?_) (fun h => ?_)) <;> (fail_if_success (cases h; done)) <;> rw [h]))
  all_goals have hw := neg64 n hn
  all_goals generalize IntKind.i64.wrap (0 - n) = m at *
  all_goals
    refine congrArg CV.bool ?_
    rw [Bool.eq_iff_iff, nIn_iff]
    simp only [cond_true, cond_false, decide_eq_true_eq, decide_eq_false_iff_not, bne_iff_ne, beq_iff_eq, ne_eq, bne_eq_false_iff_eq, true_iff, false_iff, reduceCtorEq] at *
    split at hw <;> omega

/-- The product by so many of the second one's leading bits. -/
def mulN (x y : Int) (j : Nat) : Int := x * (y / 2 ^ j)

end Go.Proofs

-- WIDE
set_option linter.unusedVariables false
set_option linter.unusedSimpArgs false
namespace Go.Proofs
open Go.Abs

theorem tmod_nat (a k : Nat) : (a : Int).tmod k = ((a % k : Nat) : Int) := by rw [Int.ofNat_tmod]
theorem tdiv_nat (a k : Nat) : (a : Int).tdiv k = ((a / k : Nat) : Int) := by rw [Int.ofNat_tdiv]
theorem numB_neg (M : Nat) (h : 0 < M) : numB (-(M : Int)) = putB (64 + M % 64) (M / 64) := by
  unfold numB; rw [if_pos (by omega), Int.natAbs_neg, Int.natAbs_natCast]
theorem numB_non (M : Nat) : numB (M : Int) = putB (0 + M % 64) (M / 64) := by
  unfold numB; rw [if_neg (by omega), Int.natAbs_natCast]
theorem putB_go (k : Nat) (h : 128 ≤ k) : putB (k % 128) (k / 128) = Go.Abs.byteOf ((128 + k % 128 : Nat) : Int) :: putB (k / 128 % 128) (k / 128 / 128) := by
  rw [putB_more _ _ (by omega), Nat.add_comm 128]
theorem putB_stop (k : Nat) (h : k < 128) : putB (k % 128) (k / 128) = [Go.Abs.byteOf ((k : Nat) : Int)] := by
  rw [show k / 128 = 0 from by omega, putB_zero, Nat.mod_eq_of_lt h]
attribute [local irreducible] AK AOps QCalls ECalls numB

set_option maxHeartbeats 0 in
theorem numberText_calls (n : Int) (h1 : -maxI ≤ n) (h2 : n ≤ maxI) : QCalls Try.prog Try.X 127 [.int .i64 n] (.str (numB n)) := by
  have hlen9 := (numB_facts n h1 h2).2.2.2
  unfold maxI at h1 h2
  by_cases hn : n < 0
  · obtain ⟨M, hM, rfl⟩ : ∃ M : Nat, 0 < M ∧ n = -(M : Int) := ⟨n.natAbs, by omega, by omega⟩
    clear hn
    have e0 : (IntKind.i64.wrap (0 - -(M : Int))) = (M : Int) := by rw [w64 (by omega) (by omega)]; omega
    have hNB : numB (-(M : Int)) = putB (64 + M % 64) (M / 64) := numB_neg M hM
    have e1 : decide ((-(M : Int)) < 0) = true := decide_eq_true (by omega)
    by_cases hs : M < 64
    · have e2 : decide ((IntKind.i64.wrap (0 - -(M : Int))) < 64) = true := decide_eq_true (by rw [e0]; omega)
      refine QCalls.of Try.func127 rfl (fun args w => Try.call127 args w) (Nat.le_of_ble_eq_true rfl) [(0, .c (.int .i64 (-(M : Int))))] rfl fun β hβ => ?_; have hf := Try.func127
      repeat' (first | refine st ?_ | (refine AK.condS rfl (fun h => ?_) (fun h => ?_) <;> first | (cases h; done) | rw [h] | skip) | refine uQ hf rfl rfl ?_ | (first | refine AOps.quo Try.hX kn rfl rfl rfl rfl rfl rfl rfl ((by decide)) ?_ | refine AOps.rem Try.hX kn rfl rfl rfl rfl rfl rfl rfl ((by decide)) ?_) | refine AOps.toStr Try.hX kn rfl rfl rfl rfl rfl rfl rfl rfl rfl rfl rfl (by first | exact rfl | exact byte1 _) rfl ?_)
      all_goals
        show (_ : CV) = _
        clear hf
        rw [hNB, show M / 64 = 0 from by omega, putB_zero]
        refine congrArg (fun z => CV.str [Go.Abs.byteOf z]) ?_
        rw [e0, w64 (by omega) (by omega)]; omega
    · have e2 : decide ((IntKind.i64.wrap (0 - -(M : Int))) < 64) = false := decide_eq_false (by rw [e0]; omega)
      have hm : ((IntKind.i64.wrap (0 - -(M : Int)))).tmod 64 = ((M % 64 : Nat) : Int) := by rw [e0]; exact tmod_nat M 64
      have hd : IntKind.i64.wrap (((IntKind.i64.wrap (0 - -(M : Int)))).tdiv 64) = ((M / 64 : Nat) : Int) := by rw [e0, show (64 : Int) = ((64 : Nat) : Int) from rfl, tdiv_nat, w64 (by omega) (by omega)]
      have hb : IntKind.i64.wrap (IntKind.i64.wrap (128 + 64) + ((IntKind.i64.wrap (0 - -(M : Int)))).tmod 64) = ((64 + M % 64 + 128 : Nat) : Int) := by rw [hm, show IntKind.i64.wrap (128 + 64) = (128 + 64 : Int) from by decide, w64 (by omega) (by omega)]; omega
      refine QCalls.of Try.func127 rfl (fun args w => Try.call127 args w) (Nat.le_of_ble_eq_true rfl) [(0, .c (.int .i64 (-(M : Int))))] rfl fun β hβ => ?_; have hf := Try.func127
      repeat' (first | refine st ?_ | (refine AK.condS rfl (fun h => ?_) (fun h => ?_) <;> first | (cases h; done) | rw [h] | skip) | refine uQ hf rfl rfl ?_ | (first | refine AOps.quo Try.hX kn rfl rfl rfl rfl rfl rfl rfl ((by decide)) ?_ | refine AOps.rem Try.hX kn rfl rfl rfl rfl rfl rfl rfl ((by decide)) ?_) | refine AOps.toStr Try.hX kn rfl rfl rfl rfl rfl rfl rfl rfl rfl rfl rfl (by first | exact rfl | exact byte1 _) rfl ?_)
      refine AK.loopE (α := Nat × List UInt8) (fun z => z.1 ≤ 1152921504606846976 ∧ numB (-(M : Int)) = z.2 ++ putB (z.1 % 128) (z.1 / 128)) (fun z => z.1)
        (fun z => [(0, .c (.int .i64 z.1)), (4, .c (.str z.2))]) (fun _ => []) (fun _ => []) [] (M / 64, [Go.Abs.byteOf ((64 + M % 64 + 128 : Nat) : Int)])
        ⟨by show M / 64 ≤ 1152921504606846976; omega, by rw [hNB, putB_more _ _ (show M / 64 ≠ 0 from by omega)]; rfl⟩ ⟨.inl (congrArg (fun z => some (AV.c (CV.int .i64 z))) hd), .inl (congrArg (fun z => some (AV.c (CV.str [Go.Abs.byteOf z]))) hb), trivial⟩ trivial trivial rfl rfl rfl ?_
      rintro ⟨k, s⟩ ⟨hk, hinv⟩ ih
      simp only at hk hinv
      have hsl : s.length ≤ 9 := by
        have := congrArg List.length hinv
        rw [List.length_append] at this; omega
      by_cases hk2 : 128 ≤ k
      · have c1 : decide (((k : Nat) : Int) ≥ 128) = true := decide_eq_true (by omega)
        rw [putB_go k hk2] at hinv
        have hkd : IntKind.i64.wrap (((k : Nat) : Int).tdiv 128) = ((k / 128 : Nat) : Int) := by rw [show (128 : Int) = ((128 : Nat) : Int) from rfl, tdiv_nat, w64 (by omega) (by omega)]
        have hkb : IntKind.i64.wrap (128 + ((k : Nat) : Int).tmod 128) = ((128 + k % 128 : Nat) : Int) := by rw [show ((k : Nat) : Int).tmod 128 = ((k % 128 : Nat) : Int) from tmod_nat k 128, w64 (by omega) (by omega)]; omega
        repeat' (first | refine st ?_ | (refine AK.condS rfl (fun h => ?_) (fun h => ?_) <;> first | (cases h; done) | rw [h] | skip) | refine uQ hf rfl rfl ?_ | (first | refine AOps.quo Try.hX kn rfl rfl rfl rfl rfl rfl rfl ((by decide)) ?_ | refine AOps.rem Try.hX kn rfl rfl rfl rfl rfl rfl rfl ((by decide)) ?_) | refine AOps.concat Try.hX kn rfl rfl rfl rfl rfl (by simp only [List.length_cons, List.length_nil]; omega) ?_ | refine AOps.toStr Try.hX kn rfl rfl rfl rfl rfl rfl rfl rfl rfl rfl rfl (by first | exact rfl | exact byte1 _) rfl ?_)
        refine AK.again (ih (k / 128, s ++ [Go.Abs.byteOf ((128 + k % 128 : Nat) : Int)]) ⟨by show k / 128 ≤ 1152921504606846976; omega, by show numB (-(M : Int)) = _; rw [hinv]; simp⟩ (by show k / 128 < k; omega)) ⟨.inl (congrArg (fun z => some (AV.c (CV.int .i64 z))) hkd), .inl (congrArg (fun z => some (AV.c (CV.str (s ++ [Go.Abs.byteOf z])))) hkb), trivial⟩ trivial trivial rfl rfl rfl
      · have c1 : decide (((k : Nat) : Int) ≥ 128) = false := decide_eq_false (by omega)
        rw [putB_stop k (by omega)] at hinv
        clear ih
        rw [hinv]
        repeat' (first | refine st ?_ | (refine AK.condS rfl (fun h => ?_) (fun h => ?_) <;> first | (cases h; done) | rw [h] | skip) | refine uQ hf rfl rfl ?_ | (first | refine AOps.quo Try.hX kn rfl rfl rfl rfl rfl rfl rfl ((by decide)) ?_ | refine AOps.rem Try.hX kn rfl rfl rfl rfl rfl rfl rfl ((by decide)) ?_) | refine AOps.concat Try.hX kn rfl rfl rfl rfl rfl (by simp only [List.length_cons, List.length_nil]; omega) ?_ | refine AOps.toStr Try.hX kn rfl rfl rfl rfl rfl rfl rfl rfl rfl rfl rfl (by first | exact rfl | exact byte1 _) rfl ?_)
        all_goals rfl
  · obtain ⟨M, rfl⟩ : ∃ M : Nat, n = (M : Int) := ⟨n.natAbs, by omega⟩
    clear hn
    have e0 : (M : Int) = (M : Int) := rfl
    have hNB : numB (M : Int) = putB (0 + M % 64) (M / 64) := numB_non M
    have e1 : decide ((M : Int) < 0) = false := decide_eq_false (by omega)
    by_cases hs : M < 64
    · have e2 : decide ((M : Int) < 64) = true := decide_eq_true (by rw [e0]; omega)
      refine QCalls.of Try.func127 rfl (fun args w => Try.call127 args w) (Nat.le_of_ble_eq_true rfl) [(0, .c (.int .i64 (M : Int)))] rfl fun β hβ => ?_; have hf := Try.func127
      repeat' (first | refine st ?_ | (refine AK.condS rfl (fun h => ?_) (fun h => ?_) <;> first | (cases h; done) | rw [h] | skip) | refine uQ hf rfl rfl ?_ | (first | refine AOps.quo Try.hX kn rfl rfl rfl rfl rfl rfl rfl ((by decide)) ?_ | refine AOps.rem Try.hX kn rfl rfl rfl rfl rfl rfl rfl ((by decide)) ?_) | refine AOps.toStr Try.hX kn rfl rfl rfl rfl rfl rfl rfl rfl rfl rfl rfl (by first | exact rfl | exact byte1 _) rfl ?_)
      all_goals
        show (_ : CV) = _
        clear hf
        rw [hNB, show M / 64 = 0 from by omega, putB_zero]
        refine congrArg (fun z => CV.str [Go.Abs.byteOf z]) ?_
        rw [e0, w64 (by omega) (by omega)]; omega
    · have e2 : decide ((M : Int) < 64) = false := decide_eq_false (by rw [e0]; omega)
      have hm : ((M : Int)).tmod 64 = ((M % 64 : Nat) : Int) := by rw [e0]; exact tmod_nat M 64
      have hd : IntKind.i64.wrap (((M : Int)).tdiv 64) = ((M / 64 : Nat) : Int) := by rw [e0, show (64 : Int) = ((64 : Nat) : Int) from rfl, tdiv_nat, w64 (by omega) (by omega)]
      have hb : IntKind.i64.wrap (IntKind.i64.wrap (128 + 0) + ((M : Int)).tmod 64) = ((0 + M % 64 + 128 : Nat) : Int) := by rw [hm, show IntKind.i64.wrap (128 + 0) = (128 + 0 : Int) from by decide, w64 (by omega) (by omega)]; omega
      refine QCalls.of Try.func127 rfl (fun args w => Try.call127 args w) (Nat.le_of_ble_eq_true rfl) [(0, .c (.int .i64 (M : Int)))] rfl fun β hβ => ?_; have hf := Try.func127
      repeat' (first | refine st ?_ | (refine AK.condS rfl (fun h => ?_) (fun h => ?_) <;> first | (cases h; done) | rw [h] | skip) | refine uQ hf rfl rfl ?_ | (first | refine AOps.quo Try.hX kn rfl rfl rfl rfl rfl rfl rfl ((by decide)) ?_ | refine AOps.rem Try.hX kn rfl rfl rfl rfl rfl rfl rfl ((by decide)) ?_) | refine AOps.toStr Try.hX kn rfl rfl rfl rfl rfl rfl rfl rfl rfl rfl rfl (by first | exact rfl | exact byte1 _) rfl ?_)
      refine AK.loopE (α := Nat × List UInt8) (fun z => z.1 ≤ 1152921504606846976 ∧ numB (M : Int) = z.2 ++ putB (z.1 % 128) (z.1 / 128)) (fun z => z.1)
        (fun z => [(0, .c (.int .i64 z.1)), (4, .c (.str z.2))]) (fun _ => []) (fun _ => []) [] (M / 64, [Go.Abs.byteOf ((0 + M % 64 + 128 : Nat) : Int)])
        ⟨by show M / 64 ≤ 1152921504606846976; omega, by rw [hNB, putB_more _ _ (show M / 64 ≠ 0 from by omega)]; rfl⟩ ⟨.inl (congrArg (fun z => some (AV.c (CV.int .i64 z))) hd), .inl (congrArg (fun z => some (AV.c (CV.str [Go.Abs.byteOf z]))) hb), trivial⟩ trivial trivial rfl rfl rfl ?_
      rintro ⟨k, s⟩ ⟨hk, hinv⟩ ih
      simp only at hk hinv
      have hsl : s.length ≤ 9 := by
        have := congrArg List.length hinv
        rw [List.length_append] at this; omega
      by_cases hk2 : 128 ≤ k
      · have c1 : decide (((k : Nat) : Int) ≥ 128) = true := decide_eq_true (by omega)
        rw [putB_go k hk2] at hinv
        have hkd : IntKind.i64.wrap (((k : Nat) : Int).tdiv 128) = ((k / 128 : Nat) : Int) := by rw [show (128 : Int) = ((128 : Nat) : Int) from rfl, tdiv_nat, w64 (by omega) (by omega)]
        have hkb : IntKind.i64.wrap (128 + ((k : Nat) : Int).tmod 128) = ((128 + k % 128 : Nat) : Int) := by rw [show ((k : Nat) : Int).tmod 128 = ((k % 128 : Nat) : Int) from tmod_nat k 128, w64 (by omega) (by omega)]; omega
        repeat' (first | refine st ?_ | (refine AK.condS rfl (fun h => ?_) (fun h => ?_) <;> first | (cases h; done) | rw [h] | skip) | refine uQ hf rfl rfl ?_ | (first | refine AOps.quo Try.hX kn rfl rfl rfl rfl rfl rfl rfl ((by decide)) ?_ | refine AOps.rem Try.hX kn rfl rfl rfl rfl rfl rfl rfl ((by decide)) ?_) | refine AOps.concat Try.hX kn rfl rfl rfl rfl rfl (by simp only [List.length_cons, List.length_nil]; omega) ?_ | refine AOps.toStr Try.hX kn rfl rfl rfl rfl rfl rfl rfl rfl rfl rfl rfl (by first | exact rfl | exact byte1 _) rfl ?_)
        refine AK.again (ih (k / 128, s ++ [Go.Abs.byteOf ((128 + k % 128 : Nat) : Int)]) ⟨by show k / 128 ≤ 1152921504606846976; omega, by show numB (M : Int) = _; rw [hinv]; simp⟩ (by show k / 128 < k; omega)) ⟨.inl (congrArg (fun z => some (AV.c (CV.int .i64 z))) hkd), .inl (congrArg (fun z => some (AV.c (CV.str (s ++ [Go.Abs.byteOf z])))) hkb), trivial⟩ trivial trivial rfl rfl rfl
      · have c1 : decide (((k : Nat) : Int) ≥ 128) = false := decide_eq_false (by omega)
        rw [putB_stop k (by omega)] at hinv
        clear ih
        rw [hinv]
        repeat' (first | refine st ?_ | (refine AK.condS rfl (fun h => ?_) (fun h => ?_) <;> first | (cases h; done) | rw [h] | skip) | refine uQ hf rfl rfl ?_ | (first | refine AOps.quo Try.hX kn rfl rfl rfl rfl rfl rfl rfl ((by decide)) ?_ | refine AOps.rem Try.hX kn rfl rfl rfl rfl rfl rfl rfl ((by decide)) ?_) | refine AOps.concat Try.hX kn rfl rfl rfl rfl rfl (by simp only [List.length_cons, List.length_nil]; omega) ?_ | refine AOps.toStr Try.hX kn rfl rfl rfl rfl rfl rfl rfl rfl rfl rfl rfl (by first | exact rfl | exact byte1 _) rfl ?_)
        all_goals rfl
end Go.Proofs
