/- What node and Node of package kind, nodeOf and TypeNode of touchstoneref answer. -/
-- WIDE
-- OLDASM
import Derived.Test.YtcinhjfonmjneaaKind9
set_option linter.unusedVariables false
set_option linter.unusedSimpArgs false
namespace Go.Proofs
open Go.Abs
theorem tyNds_nil : tyNds [] = [] := rfl
theorem tyNds_cons (t : Ty) (l : List Ty) : tyNds (t :: l) = tyNd t :: tyNds l := rfl
theorem tyNd_eq (T : Int) (args : List Ty) : encNd (tyNd (.mk T args)) = .agg [.int .i64 2, .int .i64 0, .int .i64 T, .str [], .sl 5 (encNds (tyNds args))] := rfl
attribute [local irreducible] AK AOps QCalls ECalls tyNd tyNds tGood

set_option maxHeartbeats 0 in
theorem kindnode_calls : ∀ (t : Ty), tySize t ≤ 1048577 → QCalls Try.prog Try.X 102 [encTy t] (encNd (tyNd t))
  | .mk T args, ht => by
    simp only [tySize] at ht
    have hl1 := tysSize_len args
    have hin : ∀ x ∈ args, QCalls Try.prog Try.X 102 [encTy x] (encNd (tyNd x)) := fun x hx => kindnode_calls x (by have := tysSize_mem hx; omega)
    rw [tyNd_eq]
    refine QCalls.of Try.func102 rfl (fun args w => Try.call102 args w) (Nat.le_of_ble_eq_true rfl) [(0, .c (encTy (.mk T args)))] rfl fun β hβ => ?_; have hf := Try.func102
    repeat' (first | refine AK.runP Try.hX Try.mixed 300 rfl ?_ | refine AK.condTe rfl asmo ?_ | refine AK.condFe rfl asmo ?_ | (refine AK.condS rfl (fun h => ?_) (fun h => ?_) <;> first | (cases h; done) | rw [h] | skip) | refine AK.retQ Try.hX hf rfl rfl ?_ | refine AK.region Try.mixed rfl ?_ | refine AOps.done ?_ | refine AOps.runS Try.hX kn rfl ?_ | refine AOps.box kn rfl rfl rfl rfl rfl rfl ?_ | refine AOps.alloc Try.hX kn rfl rfl rfl rfl rfl rfl rfl ?_ | refine AOps.store Try.hX kn rfl rfl rfl rfl rfl rfl rfl rfl rfl rfl rfl ?_ | refine AOps.buildSlice Try.hX kn rfl rfl rfl rfl rfl rfl rfl rfl rfl rfl rfl rfl ?_ | refine AOps.append Try.hX kn rfl rfl rfl rfl rfl rfl rfl rfl rfl rfl rfl rfl rfl rfl rfl rfl rfl rfl rfl rfl rfl ?_ ?_ | refine AOps.toStr Try.hX kn rfl rfl rfl rfl rfl rfl rfl rfl rfl rfl rfl (by first | exact rfl | exact byte1 _) rfl ?_ | refine AOps.buildArr Try.hX kn rfl rfl rfl rfl rfl rfl rfl rfl ?_ | refine AOps.indexArr Try.hX kn rfl rfl rfl rfl rfl rfl rfl rfl rfl rfl rfl rfl ?_ | refine AOps.runP1 Try.hX kn rfl rfl ?_ | (refine AOps.splitT rfl rfl rfl asmo (fun h => ?_) <;> (fail_if_success (cases h; done)) <;> rw [h]) | (refine AOps.splitF rfl rfl rfl asmo (fun h => ?_) <;> (fail_if_success (cases h; done)) <;> rw [h]) | (refine AOps.split rfl rfl rfl (fun h => ?_) (fun h => ?_) <;> (fail_if_success (cases h; done)) <;> rw [h]) | refine AOps.drawn (by kernel_rfl) ?_)
    refine AK.ren [(2, 2), (3, 3)] [(3000, (0, none))] (env' := [(12, .c (.int .i64 (0 : Nat))), (11, .c (.int .i64 (encTys args).length)), (10, .c (.sl 2 (encTys args))), (2, .ptr 2 0), (3, .ptr 3 0)])
      (bs' := [(2, [.c (.int .i64 0), .c (.int .i64 0), .c (.int .i64 0), .c (.str []), .own .exact 5 []]), (3, [.c (.int .i64 2), .c (.int .i64 0), .c (.int .i64 T), .c (.str []), .own (.tok 3000 0) 5 []])]) (ts' := [(3000, 0)]) (us' := [2, 3, 3000])
      ⟨⟨_, rfl, .inl rfl⟩, ⟨_, rfl, .inl rfl⟩, ⟨_, rfl, .inl rfl⟩, ⟨_, rfl, ⟨_, rfl, rfl⟩⟩, ⟨_, rfl, ⟨_, rfl, rfl⟩⟩, trivial⟩ ⟨⟨_, _, rfl, rfl, ⟨_, _, rfl, .inl rfl, ⟨_, _, rfl, .inl rfl, ⟨_, _, rfl, .inl rfl, ⟨_, _, rfl, .inl rfl, ⟨_, _, rfl, rfl, rfl⟩⟩⟩⟩⟩⟩, ⟨_, _, rfl, rfl, ⟨_, _, rfl, .inl rfl, ⟨_, _, rfl, .inl rfl, ⟨_, _, rfl, .inl rfl, ⟨_, _, rfl, .inl rfl, ⟨_, _, rfl, ⟨_, rfl, .inl ⟨rfl, _, rfl, .inr rfl⟩⟩, rfl⟩⟩⟩⟩⟩⟩, trivial⟩ rfl ?_
    refine AK.loopE (α := Nat × List Nd) (fun z => z.1 ≤ args.length ∧ z.1 = z.2.length ∧ tyNds args = z.2 ++ tyNds (args.drop z.1)) (fun z => args.length - z.1)
      (fun z => [(12, .c (.int .i64 z.1)), (11, .c (.int .i64 (encTys args).length)), (10, .c (.sl 2 (encTys args))), (2, .ptr 2 0), (3, .ptr 3 0)])
      (fun z => [(2, [.c (.int .i64 0), .c (.int .i64 0), .c (.int .i64 0), .c (.str []), .own .exact 5 []]), (3, [.c (.int .i64 2), .c (.int .i64 0), .c (.int .i64 T), .c (.str []), .own (.tok 3000 0) 5 (encNds z.2)])]) (fun _ => [(3000, 0)]) [2, 3, 3000] (0, [])
      ⟨by omega, rfl, rfl⟩ ⟨.inl rfl, .inl rfl, .inl rfl, .inl rfl, .inl rfl, trivial⟩ ⟨rfl, rfl, trivial⟩ ⟨rfl, trivial⟩ rfl rfl rfl ?_
    rintro ⟨i, acc⟩ ⟨hi, hia, hinv⟩ ih
    simp only at hi hia hinv
    rcases get_or args i hi with ⟨x, hx, hm⟩ | he
    · have hc := tys_lt hx
      have hq := hin x hm
      rw [drop_at hx, tyNds_cons] at hinv
      have h2 := lt_of_get hx
      generalize hy : tyNd x = y at hq hinv
      obtain ⟨U, us⟩ := x
      obtain ⟨y1, y2, y3, y4, y5⟩ := y
      repeat' (first | refine AK.runP Try.hX Try.mixed 300 rfl ?_ | refine AK.condTe rfl asmo ?_ | refine AK.condFe rfl asmo ?_ | (refine AK.condS rfl (fun h => ?_) (fun h => ?_) <;> first | (cases h; done) | rw [h] | skip) | refine AK.retQ Try.hX hf rfl rfl ?_ | refine AK.region Try.mixed rfl ?_ | refine AOps.done ?_ | refine AOps.runS Try.hX kn rfl ?_ | refine AOps.index Try.hX rfl rfl rfl rfl rfl rfl rfl rfl rfl rfl (i) rfl (tys_at hx) rfl ?_ | refine AOps.callq kn rfl rfl rfl rfl (hq) ?_ | refine AOps.box kn rfl rfl rfl rfl rfl rfl ?_ | refine AOps.alloc Try.hX kn rfl rfl rfl rfl rfl rfl rfl ?_ | refine AOps.store Try.hX kn rfl rfl rfl rfl rfl rfl rfl rfl rfl rfl rfl ?_ | refine AOps.buildSlice Try.hX kn rfl rfl rfl rfl rfl rfl rfl rfl rfl rfl rfl rfl ?_ | refine AOps.append Try.hX kn rfl rfl rfl rfl rfl rfl rfl rfl rfl rfl rfl rfl rfl rfl rfl rfl rfl rfl rfl rfl rfl ?_ ?_ | refine AOps.toStr Try.hX kn rfl rfl rfl rfl rfl rfl rfl rfl rfl rfl rfl (by first | exact rfl | exact byte1 _) rfl ?_ | refine AOps.buildArr Try.hX kn rfl rfl rfl rfl rfl rfl rfl rfl ?_ | refine AOps.indexArr Try.hX kn rfl rfl rfl rfl rfl rfl rfl rfl rfl rfl rfl rfl ?_ | refine AOps.runP1 Try.hX kn rfl rfl ?_ | (refine AOps.splitT rfl rfl rfl asmo (fun h => ?_) <;> (fail_if_success (cases h; done)) <;> rw [h]) | (refine AOps.splitF rfl rfl rfl asmo (fun h => ?_) <;> (fail_if_success (cases h; done)) <;> rw [h]) | (refine AOps.split rfl rfl rfl (fun h => ?_) (fun h => ?_) <;> (fail_if_success (cases h; done)) <;> rw [h]) | refine AOps.drawn (by kernel_rfl) ?_)
      · have h1 := encNds_length acc
        simp only [List.length_cons, List.length_nil]
        omega
      · have hap : encNds acc ++ [encNd (.mk y1 y2 y3 y4 y5)] = encNds (acc ++ [.mk y1 y2 y3 y4 y5]) := (encNds_append acc [_]).symm
        refine AK.ren [(2, 2), (3, 3)] [(3000, (0, some 3000))] (env' := [(12, .c (.int .i64 ((i + 1 : Nat) : Int))), (11, .c (.int .i64 (encTys args).length)), (10, .c (.sl 2 (encTys args))), (2, .ptr 2 0), (3, .ptr 3 0)])
          (bs' := [(2, [.c (.int .i64 0), .c (.int .i64 0), .c (.int .i64 0), .c (.str []), .own .exact 5 []]), (3, [.c (.int .i64 2), .c (.int .i64 0), .c (.int .i64 T), .c (.str []), .own (.tok 3000 0) 5 (encNds (acc ++ [.mk y1 y2 y3 y4 y5]))])]) (ts' := [(3000, 0)]) (us' := [2, 3, 3000])
          ⟨⟨_, rfl, .inl (succ64' (i := i) (by omega))⟩, ⟨_, rfl, .inl rfl⟩, ⟨_, rfl, .inl rfl⟩, ⟨_, rfl, ⟨_, rfl, rfl⟩⟩, ⟨_, rfl, ⟨_, rfl, rfl⟩⟩, trivial⟩ ⟨⟨_, _, rfl, rfl, ⟨_, _, rfl, .inl rfl, ⟨_, _, rfl, .inl rfl, ⟨_, _, rfl, .inl rfl, ⟨_, _, rfl, .inl rfl, ⟨_, _, rfl, rfl, rfl⟩⟩⟩⟩⟩⟩, ⟨_, _, rfl, rfl, ⟨_, _, rfl, .inl rfl, ⟨_, _, rfl, .inl rfl, ⟨_, _, rfl, .inl rfl, ⟨_, _, rfl, .inl rfl, ⟨_, _, rfl, ⟨_, rfl, .inr ⟨_, _, rfl, rfl, congrArg (AV.own (.tok 3000 1) 5) hap⟩⟩, rfl⟩⟩⟩⟩⟩⟩, trivial⟩ rfl ?_
        refine ih (i + 1, acc ++ [.mk y1 y2 y3 y4 y5]) ⟨h2, by simp [hia], ?_⟩ (by show args.length - (i + 1) < args.length - i; omega)
        show tyNds args = _
        rw [hinv]; simp
    · have hc := tys_end he
      have hG : tyNds args = acc := by rw [hinv, he, List.drop_length, tyNds_nil, List.append_nil]
      clear ih hin
      repeat' (first | refine AK.runP Try.hX Try.mixed 300 rfl ?_ | refine AK.condTe rfl asmo ?_ | refine AK.condFe rfl asmo ?_ | (refine AK.condS rfl (fun h => ?_) (fun h => ?_) <;> first | (cases h; done) | rw [h] | skip) | refine AK.retQ Try.hX hf rfl rfl ?_ | refine AK.region Try.mixed rfl ?_ | refine AOps.done ?_ | refine AOps.runS Try.hX kn rfl ?_ | refine AOps.box kn rfl rfl rfl rfl rfl rfl ?_ | refine AOps.alloc Try.hX kn rfl rfl rfl rfl rfl rfl rfl ?_ | refine AOps.store Try.hX kn rfl rfl rfl rfl rfl rfl rfl rfl rfl rfl rfl ?_ | refine AOps.buildSlice Try.hX kn rfl rfl rfl rfl rfl rfl rfl rfl rfl rfl rfl rfl ?_ | refine AOps.append Try.hX kn rfl rfl rfl rfl rfl rfl rfl rfl rfl rfl rfl rfl rfl rfl rfl rfl rfl rfl rfl rfl rfl ?_ ?_ | refine AOps.toStr Try.hX kn rfl rfl rfl rfl rfl rfl rfl rfl rfl rfl rfl (by first | exact rfl | exact byte1 _) rfl ?_ | refine AOps.buildArr Try.hX kn rfl rfl rfl rfl rfl rfl rfl rfl ?_ | refine AOps.indexArr Try.hX kn rfl rfl rfl rfl rfl rfl rfl rfl rfl rfl rfl rfl ?_ | refine AOps.runP1 Try.hX kn rfl rfl ?_ | (refine AOps.splitT rfl rfl rfl asmo (fun h => ?_) <;> (fail_if_success (cases h; done)) <;> rw [h]) | (refine AOps.splitF rfl rfl rfl asmo (fun h => ?_) <;> (fail_if_success (cases h; done)) <;> rw [h]) | (refine AOps.split rfl rfl rfl (fun h => ?_) (fun h => ?_) <;> (fail_if_success (cases h; done)) <;> rw [h]) | refine AOps.drawn (by kernel_rfl) ?_)
      rw [hG]
termination_by t => SizeOf.sizeOf t
decreasing_by
  have := List.sizeOf_lt_of_mem hx
  simp at this ⊢; omega

set_option maxHeartbeats 0 in
theorem nodeOf_calls : ∀ (t : Ty), tySize t ≤ 1048577 → QCalls Try.prog Try.X 103 [encTy t] (encNd (tyNd t))
  | .mk T args, ht => by
    simp only [tySize] at ht
    have hl1 := tysSize_len args
    have hin : ∀ x ∈ args, QCalls Try.prog Try.X 103 [encTy x] (encNd (tyNd x)) := fun x hx => nodeOf_calls x (by have := tysSize_mem hx; omega)
    rw [tyNd_eq]
    refine QCalls.of Try.func103 rfl (fun args w => Try.call103 args w) (Nat.le_of_ble_eq_true rfl) [(0, .c (encTy (.mk T args)))] rfl fun β hβ => ?_; have hf := Try.func103
    repeat' (first | refine AK.runP Try.hX Try.mixed 300 rfl ?_ | refine AK.condTe rfl asmo ?_ | refine AK.condFe rfl asmo ?_ | (refine AK.condS rfl (fun h => ?_) (fun h => ?_) <;> first | (cases h; done) | rw [h] | skip) | refine AK.retQ Try.hX hf rfl rfl ?_ | refine AK.region Try.mixed rfl ?_ | refine AOps.done ?_ | refine AOps.runS Try.hX kn rfl ?_ | refine AOps.box kn rfl rfl rfl rfl rfl rfl ?_ | refine AOps.alloc Try.hX kn rfl rfl rfl rfl rfl rfl rfl ?_ | refine AOps.store Try.hX kn rfl rfl rfl rfl rfl rfl rfl rfl rfl rfl rfl ?_ | refine AOps.buildSlice Try.hX kn rfl rfl rfl rfl rfl rfl rfl rfl rfl rfl rfl rfl ?_ | refine AOps.append Try.hX kn rfl rfl rfl rfl rfl rfl rfl rfl rfl rfl rfl rfl rfl rfl rfl rfl rfl rfl rfl rfl rfl ?_ ?_ | refine AOps.toStr Try.hX kn rfl rfl rfl rfl rfl rfl rfl rfl rfl rfl rfl (by first | exact rfl | exact byte1 _) rfl ?_ | refine AOps.buildArr Try.hX kn rfl rfl rfl rfl rfl rfl rfl rfl ?_ | refine AOps.indexArr Try.hX kn rfl rfl rfl rfl rfl rfl rfl rfl rfl rfl rfl rfl ?_ | refine AOps.runP1 Try.hX kn rfl rfl ?_ | (refine AOps.splitT rfl rfl rfl asmo (fun h => ?_) <;> (fail_if_success (cases h; done)) <;> rw [h]) | (refine AOps.splitF rfl rfl rfl asmo (fun h => ?_) <;> (fail_if_success (cases h; done)) <;> rw [h]) | (refine AOps.split rfl rfl rfl (fun h => ?_) (fun h => ?_) <;> (fail_if_success (cases h; done)) <;> rw [h]) | refine AOps.drawn (by kernel_rfl) ?_)
    refine AK.ren [(2, 2), (3, 3)] [(3000, (0, none))] (env' := [(12, .c (.int .i64 (0 : Nat))), (11, .c (.int .i64 (encTys args).length)), (10, .c (.sl 2 (encTys args))), (2, .ptr 2 0), (3, .ptr 3 0)])
      (bs' := [(2, [.c (.int .i64 0), .c (.int .i64 0), .c (.int .i64 0), .c (.str []), .own .exact 5 []]), (3, [.c (.int .i64 2), .c (.int .i64 0), .c (.int .i64 T), .c (.str []), .own (.tok 3000 0) 5 []])]) (ts' := [(3000, 0)]) (us' := [2, 3, 3000])
      ⟨⟨_, rfl, .inl rfl⟩, ⟨_, rfl, .inl rfl⟩, ⟨_, rfl, .inl rfl⟩, ⟨_, rfl, ⟨_, rfl, rfl⟩⟩, ⟨_, rfl, ⟨_, rfl, rfl⟩⟩, trivial⟩ ⟨⟨_, _, rfl, rfl, ⟨_, _, rfl, .inl rfl, ⟨_, _, rfl, .inl rfl, ⟨_, _, rfl, .inl rfl, ⟨_, _, rfl, .inl rfl, ⟨_, _, rfl, rfl, rfl⟩⟩⟩⟩⟩⟩, ⟨_, _, rfl, rfl, ⟨_, _, rfl, .inl rfl, ⟨_, _, rfl, .inl rfl, ⟨_, _, rfl, .inl rfl, ⟨_, _, rfl, .inl rfl, ⟨_, _, rfl, ⟨_, rfl, .inl ⟨rfl, _, rfl, .inr rfl⟩⟩, rfl⟩⟩⟩⟩⟩⟩, trivial⟩ rfl ?_
    refine AK.loopE (α := Nat × List Nd) (fun z => z.1 ≤ args.length ∧ z.1 = z.2.length ∧ tyNds args = z.2 ++ tyNds (args.drop z.1)) (fun z => args.length - z.1)
      (fun z => [(12, .c (.int .i64 z.1)), (11, .c (.int .i64 (encTys args).length)), (10, .c (.sl 2 (encTys args))), (2, .ptr 2 0), (3, .ptr 3 0)])
      (fun z => [(2, [.c (.int .i64 0), .c (.int .i64 0), .c (.int .i64 0), .c (.str []), .own .exact 5 []]), (3, [.c (.int .i64 2), .c (.int .i64 0), .c (.int .i64 T), .c (.str []), .own (.tok 3000 0) 5 (encNds z.2)])]) (fun _ => [(3000, 0)]) [2, 3, 3000] (0, [])
      ⟨by omega, rfl, rfl⟩ ⟨.inl rfl, .inl rfl, .inl rfl, .inl rfl, .inl rfl, trivial⟩ ⟨rfl, rfl, trivial⟩ ⟨rfl, trivial⟩ rfl rfl rfl ?_
    rintro ⟨i, acc⟩ ⟨hi, hia, hinv⟩ ih
    simp only at hi hia hinv
    rcases get_or args i hi with ⟨x, hx, hm⟩ | he
    · have hc := tys_lt hx
      have hq := hin x hm
      rw [drop_at hx, tyNds_cons] at hinv
      have h2 := lt_of_get hx
      generalize hy : tyNd x = y at hq hinv
      obtain ⟨U, us⟩ := x
      obtain ⟨y1, y2, y3, y4, y5⟩ := y
      repeat' (first | refine AK.runP Try.hX Try.mixed 300 rfl ?_ | refine AK.condTe rfl asmo ?_ | refine AK.condFe rfl asmo ?_ | (refine AK.condS rfl (fun h => ?_) (fun h => ?_) <;> first | (cases h; done) | rw [h] | skip) | refine AK.retQ Try.hX hf rfl rfl ?_ | refine AK.region Try.mixed rfl ?_ | refine AOps.done ?_ | refine AOps.runS Try.hX kn rfl ?_ | refine AOps.index Try.hX rfl rfl rfl rfl rfl rfl rfl rfl rfl rfl (i) rfl (tys_at hx) rfl ?_ | refine AOps.callq kn rfl rfl rfl rfl (hq) ?_ | refine AOps.box kn rfl rfl rfl rfl rfl rfl ?_ | refine AOps.alloc Try.hX kn rfl rfl rfl rfl rfl rfl rfl ?_ | refine AOps.store Try.hX kn rfl rfl rfl rfl rfl rfl rfl rfl rfl rfl rfl ?_ | refine AOps.buildSlice Try.hX kn rfl rfl rfl rfl rfl rfl rfl rfl rfl rfl rfl rfl ?_ | refine AOps.append Try.hX kn rfl rfl rfl rfl rfl rfl rfl rfl rfl rfl rfl rfl rfl rfl rfl rfl rfl rfl rfl rfl rfl ?_ ?_ | refine AOps.toStr Try.hX kn rfl rfl rfl rfl rfl rfl rfl rfl rfl rfl rfl (by first | exact rfl | exact byte1 _) rfl ?_ | refine AOps.buildArr Try.hX kn rfl rfl rfl rfl rfl rfl rfl rfl ?_ | refine AOps.indexArr Try.hX kn rfl rfl rfl rfl rfl rfl rfl rfl rfl rfl rfl rfl ?_ | refine AOps.runP1 Try.hX kn rfl rfl ?_ | (refine AOps.splitT rfl rfl rfl asmo (fun h => ?_) <;> (fail_if_success (cases h; done)) <;> rw [h]) | (refine AOps.splitF rfl rfl rfl asmo (fun h => ?_) <;> (fail_if_success (cases h; done)) <;> rw [h]) | (refine AOps.split rfl rfl rfl (fun h => ?_) (fun h => ?_) <;> (fail_if_success (cases h; done)) <;> rw [h]) | refine AOps.drawn (by kernel_rfl) ?_)
      · have h1 := encNds_length acc
        simp only [List.length_cons, List.length_nil]
        omega
      · have hap : encNds acc ++ [encNd (.mk y1 y2 y3 y4 y5)] = encNds (acc ++ [.mk y1 y2 y3 y4 y5]) := (encNds_append acc [_]).symm
        refine AK.ren [(2, 2), (3, 3)] [(3000, (0, some 3000))] (env' := [(12, .c (.int .i64 ((i + 1 : Nat) : Int))), (11, .c (.int .i64 (encTys args).length)), (10, .c (.sl 2 (encTys args))), (2, .ptr 2 0), (3, .ptr 3 0)])
          (bs' := [(2, [.c (.int .i64 0), .c (.int .i64 0), .c (.int .i64 0), .c (.str []), .own .exact 5 []]), (3, [.c (.int .i64 2), .c (.int .i64 0), .c (.int .i64 T), .c (.str []), .own (.tok 3000 0) 5 (encNds (acc ++ [.mk y1 y2 y3 y4 y5]))])]) (ts' := [(3000, 0)]) (us' := [2, 3, 3000])
          ⟨⟨_, rfl, .inl (succ64' (i := i) (by omega))⟩, ⟨_, rfl, .inl rfl⟩, ⟨_, rfl, .inl rfl⟩, ⟨_, rfl, ⟨_, rfl, rfl⟩⟩, ⟨_, rfl, ⟨_, rfl, rfl⟩⟩, trivial⟩ ⟨⟨_, _, rfl, rfl, ⟨_, _, rfl, .inl rfl, ⟨_, _, rfl, .inl rfl, ⟨_, _, rfl, .inl rfl, ⟨_, _, rfl, .inl rfl, ⟨_, _, rfl, rfl, rfl⟩⟩⟩⟩⟩⟩, ⟨_, _, rfl, rfl, ⟨_, _, rfl, .inl rfl, ⟨_, _, rfl, .inl rfl, ⟨_, _, rfl, .inl rfl, ⟨_, _, rfl, .inl rfl, ⟨_, _, rfl, ⟨_, rfl, .inr ⟨_, _, rfl, rfl, congrArg (AV.own (.tok 3000 1) 5) hap⟩⟩, rfl⟩⟩⟩⟩⟩⟩, trivial⟩ rfl ?_
        refine ih (i + 1, acc ++ [.mk y1 y2 y3 y4 y5]) ⟨h2, by simp [hia], ?_⟩ (by show args.length - (i + 1) < args.length - i; omega)
        show tyNds args = _
        rw [hinv]; simp
    · have hc := tys_end he
      have hG : tyNds args = acc := by rw [hinv, he, List.drop_length, tyNds_nil, List.append_nil]
      clear ih hin
      repeat' (first | refine AK.runP Try.hX Try.mixed 300 rfl ?_ | refine AK.condTe rfl asmo ?_ | refine AK.condFe rfl asmo ?_ | (refine AK.condS rfl (fun h => ?_) (fun h => ?_) <;> first | (cases h; done) | rw [h] | skip) | refine AK.retQ Try.hX hf rfl rfl ?_ | refine AK.region Try.mixed rfl ?_ | refine AOps.done ?_ | refine AOps.runS Try.hX kn rfl ?_ | refine AOps.box kn rfl rfl rfl rfl rfl rfl ?_ | refine AOps.alloc Try.hX kn rfl rfl rfl rfl rfl rfl rfl ?_ | refine AOps.store Try.hX kn rfl rfl rfl rfl rfl rfl rfl rfl rfl rfl rfl ?_ | refine AOps.buildSlice Try.hX kn rfl rfl rfl rfl rfl rfl rfl rfl rfl rfl rfl rfl ?_ | refine AOps.append Try.hX kn rfl rfl rfl rfl rfl rfl rfl rfl rfl rfl rfl rfl rfl rfl rfl rfl rfl rfl rfl rfl rfl ?_ ?_ | refine AOps.toStr Try.hX kn rfl rfl rfl rfl rfl rfl rfl rfl rfl rfl rfl (by first | exact rfl | exact byte1 _) rfl ?_ | refine AOps.buildArr Try.hX kn rfl rfl rfl rfl rfl rfl rfl rfl ?_ | refine AOps.indexArr Try.hX kn rfl rfl rfl rfl rfl rfl rfl rfl rfl rfl rfl rfl ?_ | refine AOps.runP1 Try.hX kn rfl rfl ?_ | (refine AOps.splitT rfl rfl rfl asmo (fun h => ?_) <;> (fail_if_success (cases h; done)) <;> rw [h]) | (refine AOps.splitF rfl rfl rfl asmo (fun h => ?_) <;> (fail_if_success (cases h; done)) <;> rw [h]) | (refine AOps.split rfl rfl rfl (fun h => ?_) (fun h => ?_) <;> (fail_if_success (cases h; done)) <;> rw [h]) | refine AOps.drawn (by kernel_rfl) ?_)
      rw [hG]
termination_by t => SizeOf.sizeOf t
decreasing_by
  have := List.sizeOf_lt_of_mem hx
  simp at this ⊢; omega
end Go.Proofs
