/- What row and parse of package value answer. -/
import Derived.Test.YtcinhjfonmjneaaVal4
import Derived.Test.YtcinhjfonmjneaaVPar
set_option linter.unusedVariables false
set_option linter.unusedSimpArgs false
set_option maxRecDepth 100000
namespace Go.Proofs
open Go.Abs
theorem encVls_append : ∀ (a : List Vl) (b : List Vl), encVls (a ++ b) = encVls a ++ encVls b
  | [], b => rfl
  | x :: a, b => by simp only [List.cons_append, encVls, encVls_append a b]
theorem vRow_cons (x : Nd) (l : List Nd) (t : Ty) (r : List Ty) : vRow (x :: l) (t :: r) = if (vPar x t).2 = true then glue [(vPar x t).1] (vRow l r) else ([], false) := by simp only [vRow]
theorem vRow_nil : vRow [] [] = ([], true) := by simp only [vRow]
theorem glue_some (acc : List Vl) (x : Vl) (z : List Vl × Bool) : glue acc (glue [x] z) = glue (acc ++ [x]) z := glue_glue acc [x] z
theorem glue_no (acc : List Vl) : glue acc ([], false) = ([], false) := rfl
theorem glue_end (acc : List Vl) : glue acc ([], true) = (acc, true) := by simp [glue]
theorem vParAll_cons (x : Nd) (l : List Nd) (t : Ty) : vParAll (x :: l) t = ((vPar x t).1 :: (vParAll l t).1, (vPar x t).2 && (vParAll l t).2) := by simp only [vParAll]
theorem vParAll_nil (t : Ty) : vParAll [] t = ([], true) := by simp only [vParAll]
theorem vParMap_cons (kind N P : Int) (S : List UInt8) (xs : List Nd) (l : List Nd) (ts : List Ty) : vParMap (.mk kind N P S xs :: l) ts = (.mk 11 0 0 [] (vRow xs ts).1 [] [] :: (vParMap l ts).1, ((vRow xs ts).2 && decide (kind = 2 ∧ P = 28)) && (vParMap l ts).2) := by simp only [vParMap]
theorem vParMap_nil (ts : List Ty) : vParMap [] ts = ([], true) := by simp only [vParMap]
theorem vPar1 (kind N P : Int) (S : List UInt8) (args : List Nd) (ts : List Ty) : vPar (.mk kind N P S args) (.mk 1 ts) = (val0 1, decide (kind = 2 ∧ P = 20 ∧ args.length = 0)) := by simp [vPar, tyT]
theorem vPar2 (kind N P : Int) (S : List UInt8) (args : List Nd) (ts : List Ty) : vPar (.mk kind N P S args) (.mk 2 ts) = (.mk 2 (IntKind.i64.wrap (22 - P)) 0 [] [] [] [], decide (kind = 2 ∧ (P = 21 ∨ P = 22) ∧ args.length = 0)) := by simp [vPar, tyT]
theorem vPar3 (T kind N P : Int) (hT : T = 3 ∨ T = 4 ∨ T = 5 ∨ T = 7) (S : List UInt8) (args : List Nd) (ts : List Ty) : vPar (.mk kind N P S args) (.mk T ts) = (.mk T N 0 [] [] [] [], decide (kind = 0)) := by
  rcases hT with rfl | rfl | rfl | rfl <;> simp [vPar, tyT]
theorem vPar6 (kind N P : Int) (S : List UInt8) (args : List Nd) (ts : List Ty) : vPar (.mk kind N P S args) (.mk 6 ts) = (.mk 6 0 0 S [] [] [], decide (kind = 1)) := by simp [vPar, tyT]
theorem vPar9a (N : Int) (S : List UInt8) (args : List Nd) (ts : List Ty) : vPar (.mk 2 N 27 S args) (.mk 9 ts) = (val0 9, decide (args.length = 0)) := by simp [vPar, tyT]
theorem vPar9b (N : Int) (S : List UInt8) (args : List Nd) (ts : List Ty) : vPar (.mk 2 N 26 S args) (.mk 9 ts) = (.mk 9 0 0 [] (vRow args ts).1 [] [], (vRow args ts).2) := by simp [vPar, tyT, tyArgs]
theorem vPar9c (kind N P : Int) (S : List UInt8) (args : List Nd) (ts : List Ty) (h1 : ¬ (kind = 2 ∧ P = 27)) (h2 : ¬ (kind = 2 ∧ P = 26)) : vPar (.mk kind N P S args) (.mk 9 ts) = (val0 9, false) := by simp [vPar, tyT, h1, h2]
theorem vPar11a (N : Int) (S : List UInt8) (args : List Nd) (ts : List Ty) : vPar (.mk 2 N 23 S args) (.mk 11 ts) = (.mk 11 0 0 [] (vRow args ts).1 [] [], (vRow args ts).2) := by simp [vPar, tyT, tyArgs]
theorem vPar11b (kind N P : Int) (S : List UInt8) (args : List Nd) (ts : List Ty) (h1 : ¬ (kind = 2 ∧ P = 23)) : vPar (.mk kind N P S args) (.mk 11 ts) = (val0 11, false) := by simp [vPar, tyT, h1]
theorem vPar12a (N : Int) (S : List UInt8) (args : List Nd) (u u' : Ty) : vPar (.mk 2 N 24 S args) (.mk 12 [u, u']) = (.mk 12 0 0 [] (vRow args [u]).1 [] [], (vRow args [u]).2) := by simp [vPar, tyT, tyArg, tyArgs]
theorem vPar12b (N : Int) (S : List UInt8) (args : List Nd) (u u' : Ty) : vPar (.mk 2 N 25 S args) (.mk 12 [u, u']) = (.mk 12 1 0 [] (vRow args [u']).1 [] [], (vRow args [u']).2) := by simp [vPar, tyT, tyArg, tyArgs]
theorem vPar12c (kind N P : Int) (S : List UInt8) (args : List Nd) (ts : List Ty) (h1 : ¬ (kind = 2 ∧ P = 24)) (h2 : ¬ (kind = 2 ∧ P = 25)) : vPar (.mk kind N P S args) (.mk 12 ts) = (val0 12, false) := by simp [vPar, tyT, h1, h2]
theorem vPar10 (kind N P : Int) (S : List UInt8) (args : List Nd) (u : Ty) : vPar (.mk kind N P S args) (.mk 10 [u]) = (.mk 10 0 0 [] (vParAll args u).1 [] [], decide (kind = 3) && (vParAll args u).2) := by simp [vPar, tyT, tyArg, tyArgs]
theorem vPar13 (kind N P : Int) (S : List UInt8) (args : List Nd) (ts : List Ty) : vPar (.mk kind N P S args) (.mk 13 ts) = (.mk 13 0 0 [] (vParMap args ts).1 [] [], decide (kind = 3) && (vParMap args ts).2) := by simp [vPar, tyT, tyArgs]
theorem vParX (T kind N P : Int) (hT : T = 8 ∨ T = 14 ∨ T = 15) (S : List UInt8) (args : List Nd) (ts : List Ty) : vPar (.mk kind N P S args) (.mk T ts) = (val0 T, false) := by
  rcases hT with rfl | rfl | rfl <;> simp [vPar, tyT]
attribute [local irreducible] AK AOps QCalls ECalls vPar vRow vParAll vParMap

theorem QCalls.weaken {P : Program} {X : Ctx} {f : FuncId} {args : List CV} {r r' : CV} (h : ∀ G v, Rel G r v → Rel G r' v) (q : QCalls P X f args r) : QCalls P X f args r' := by
  unfold QCalls at q ⊢
  refine ⟨q.1, fun G w vs h1 h2 h3 => ?_⟩
  exact Calls.mono (q.2 G w vs h1 h2 h3) fun e w' ⟨u, G', e1, e2, e3⟩ => ⟨u, G', e1, h G' u e2, e3⟩
theorem rel_nil {G : Imm} {s t : Nat} {v : Value} (h : Rel G (.sl s []) v) : Rel G (.sl t []) v := by
  rw [Rel] at h ⊢
  obtain ⟨base, len, cap, e1, e2, e3, _⟩ := h
  exact ⟨base, len, cap, e1, e2, e3, .inl rfl⟩
theorem rel_nil2 {G : Imm} {s t : Nat} {b : Bool} {v : Value} (h : Rel G (.tup [.sl s [], .bool b]) v) : Rel G (.tup [.sl t [], .bool b]) v := by
  rw [Rel] at h ⊢
  obtain ⟨vs, e1, e2, e3⟩ := h
  refine ⟨vs, e1, ?_, by simp⟩
  rw [RelL] at e2 ⊢
  obtain ⟨u, us, f1, f2, f3⟩ := e2
  exact ⟨u, us, f1, rel_nil f2, f3⟩
/-- What row answers, as it lies there. -/
def rowCV : List Vl × Bool → CV
  | (q, true) => .tup [.sl 7 (encVls q), .bool true]
  | (_, false) => .tup [.sl 0 [], .bool false]
/-- is -/
theorem is_calls (kind N P q : Int) (S : List UInt8) (args : List Nd) : QCalls Try.prog Try.X 146 [.int .i64 q, .ip [.int .i64 kind, .int .i64 N, .int .i64 P, .str S, .sl 5 (encNds args)]] (.bool (decide (kind = 2 ∧ P = q))) := by
  refine QCalls.of Try.func146 rfl (fun args w => Try.call146 args w) (Nat.le_of_ble_eq_true rfl) [(0, .c (.int .i64 q)), (1, .c (.ip [.int .i64 kind, .int .i64 N, .int .i64 P, .str S, .sl 5 (encNds args)]))] rfl fun β hβ => ?_; have hf := Try.func146
  repeat' (first | refine AK.runP Try.hX Try.mixed 300 rfl ?_ | refine AK.condTe rfl asm ?_ | refine AK.condFe rfl asm ?_ | (refine AK.condS rfl (fun h => ?_) (fun h => ?_) <;> first | (cases h; done) | rw [h] | skip) | refine AK.retQ Try.hX hf rfl rfl ?_ | refine AK.region Try.mixed rfl ?_ | refine AOps.done ?_ | refine AOps.runS Try.hX kn rfl ?_ | refine AOps.box kn rfl rfl rfl rfl rfl rfl ?_ | refine AOps.alloc Try.hX kn rfl rfl rfl rfl rfl rfl rfl ?_ | refine AOps.store Try.hX kn rfl rfl rfl rfl rfl rfl rfl rfl rfl rfl rfl ?_ | refine AOps.buildSlice Try.hX kn rfl rfl rfl rfl rfl rfl rfl rfl rfl rfl rfl rfl ?_ | refine AOps.append Try.hX kn rfl rfl rfl rfl rfl rfl rfl rfl rfl rfl rfl rfl rfl rfl rfl rfl rfl rfl rfl rfl rfl ?_ ?_ | refine AOps.toStr Try.hX kn rfl rfl rfl rfl rfl rfl rfl rfl rfl rfl rfl (by first | exact rfl | exact byte1 _) rfl ?_ | refine AOps.buildArr Try.hX kn rfl rfl rfl rfl rfl rfl rfl rfl ?_ | refine AOps.indexArr Try.hX kn rfl rfl rfl rfl rfl rfl rfl rfl rfl rfl rfl rfl ?_ | refine AOps.runP1 Try.hX kn rfl rfl ?_ | (refine AOps.splitT rfl rfl rfl asm (fun h => ?_) <;> (fail_if_success (cases h; done)) <;> rw [h]) | (refine AOps.splitF rfl rfl rfl asm (fun h => ?_) <;> (fail_if_success (cases h; done)) <;> rw [h]) | (refine AOps.split rfl rfl rfl (fun h => ?_) (fun h => ?_) <;> (fail_if_success (cases h; done)) <;> rw [h]) | refine AOps.drawn (by kernel_rfl) ?_)
  all_goals
    show (_ : CV) = _
    clear hf
    refine congrArg CV.bool ?_
    rw [Bool.eq_iff_iff]
    (try simp_all) <;> (try omega)

set_option maxHeartbeats 0 in
theorem row_calls0 (ts : List Ty) (l : List Nd) (hl : l.length ≤ 1099511627776) (hp : ∀ x ∈ l, ∀ t ∈ ts, QCalls Try.prog Try.X 123 [encTy t, encNd x] (.tup [encVl (vPar x t).1, .bool (vPar x t).2])) :
    QCalls Try.prog Try.X 147 [.sl 2 (encTys ts), .sl 5 (encNds l)] (rowCV (vRow l ts)) := by
  by_cases hlen : l.length = ts.length
  rotate_left
  · have e0 : ((((encTys ts).length : Nat) : Int) != (((encNds l).length : Nat) : Int)) = true := by rw [encTys_length, encNds_length]; simp; omega
    rw [vRow_len l ts hlen]
    refine QCalls.of Try.func147 rfl (fun args w => Try.call147 args w) (Nat.le_of_ble_eq_true rfl) [(0, .c (.sl 2 (encTys ts))), (1, .c (.sl 5 (encNds l)))] rfl fun β hβ => ?_; have hf := Try.func147
    exact dq
  have e0 : ((((encTys ts).length : Nat) : Int) != (((encNds l).length : Nat) : Int)) = false := by rw [encTys_length, encNds_length]; simp; omega
  refine QCalls.of Try.func147 rfl (fun args w => Try.call147 args w) (Nat.le_of_ble_eq_true rfl) [(0, .c (.sl 2 (encTys ts))), (1, .c (.sl 5 (encNds l)))] rfl fun β hβ => ?_; have hf := Try.func147
  repeat' (first | refine AK.runP Try.hX Try.mixed 300 rfl ?_ | refine AK.condTe rfl asm ?_ | refine AK.condFe rfl asm ?_ | (refine AK.condS rfl (fun h => ?_) (fun h => ?_) <;> first | (cases h; done) | rw [h] | skip) | refine AK.retQ Try.hX hf rfl rfl ?_ | refine AK.region Try.mixed rfl ?_ | refine AOps.done ?_ | refine AOps.runS Try.hX kn rfl ?_ | refine AOps.box kn rfl rfl rfl rfl rfl rfl ?_ | refine AOps.alloc Try.hX kn rfl rfl rfl rfl rfl rfl rfl ?_ | refine AOps.store Try.hX kn rfl rfl rfl rfl rfl rfl rfl rfl rfl rfl rfl ?_ | refine AOps.buildSlice Try.hX kn rfl rfl rfl rfl rfl rfl rfl rfl rfl rfl rfl rfl ?_ | refine AOps.append Try.hX kn rfl rfl rfl rfl rfl rfl rfl rfl rfl rfl rfl rfl rfl rfl rfl rfl rfl rfl rfl rfl rfl ?_ ?_ | refine AOps.toStr Try.hX kn rfl rfl rfl rfl rfl rfl rfl rfl rfl rfl rfl (by first | exact rfl | exact byte1 _) rfl ?_ | refine AOps.buildArr Try.hX kn rfl rfl rfl rfl rfl rfl rfl rfl ?_ | refine AOps.indexArr Try.hX kn rfl rfl rfl rfl rfl rfl rfl rfl rfl rfl rfl rfl ?_ | refine AOps.runP1 Try.hX kn rfl rfl ?_ | (refine AOps.splitT rfl rfl rfl asm (fun h => ?_) <;> (fail_if_success (cases h; done)) <;> rw [h]) | (refine AOps.splitF rfl rfl rfl asm (fun h => ?_) <;> (fail_if_success (cases h; done)) <;> rw [h]) | (refine AOps.split rfl rfl rfl (fun h => ?_) (fun h => ?_) <;> (fail_if_success (cases h; done)) <;> rw [h]) | refine AOps.drawn (by kernel_rfl) ?_)
  refine AK.ren [] [(6000, (0, none))] (env' := [(17, .c (.int .i64 (0 : Nat))), (16, .c (.int .i64 (encNds l).length)), (0, .c (.sl 2 (encTys ts))), (1, .c (.sl 5 (encNds l))), (6, .own (.tok 6000 0) 7 [])])
    (bs' := []) (ts' := [(6000, 0)]) (us' := [6000])
    ⟨⟨_, rfl, .inl rfl⟩, ⟨_, rfl, .inl rfl⟩, ⟨_, rfl, .inl rfl⟩, ⟨_, rfl, .inl rfl⟩, ⟨_, rfl, ⟨_, rfl, .inl ⟨rfl, _, rfl, .inr rfl⟩⟩⟩, trivial⟩ trivial rfl ?_
  refine AK.loopE (α := Nat × List Vl) (fun z => z.1 ≤ l.length ∧ z.1 = z.2.length ∧ vRow l ts = glue z.2 (vRow (l.drop z.1) (ts.drop z.1))) (fun z => l.length - z.1)
    (fun z => [(17, .c (.int .i64 z.1)), (16, .c (.int .i64 (encNds l).length)), (0, .c (.sl 2 (encTys ts))), (1, .c (.sl 5 (encNds l))), (6, .own (.tok 6000 0) 7 (encVls z.2))]) (fun _ => []) (fun _ => [(6000, 0)]) [6000] (0, [])
    ⟨by omega, rfl, by rw [glue_nil _ (vRow_false _ _)]; rfl⟩ ⟨.inl rfl, .inl rfl, .inl rfl, .inl rfl, .inl rfl, trivial⟩ trivial ⟨rfl, trivial⟩ rfl rfl rfl ?_
  rintro ⟨i, acc⟩ ⟨hi, hia, hinv⟩ ih
  simp only at hi hia hinv
  rcases get_or l i hi with ⟨x, hx, hm⟩ | he
  · have hc := nds_lt hx
    have h2 := lt_of_get hx
    obtain ⟨t, ht⟩ : ∃ t, ts[i]? = some t := ⟨ts[i]'(by omega), by simp⟩
    have hq := hp x hm t (List.mem_of_getElem? ht)
    rw [drop_at hx, drop_at ht, vRow_cons] at hinv
    rcases hr : vPar x t with ⟨⟨y1, y2, y3, y4, y5, y6, y7⟩, b⟩
    rw [hr] at hq hinv
    obtain ⟨xk, xn, xp, xs, xa⟩ := x
    obtain ⟨U, us⟩ := t
    cases b with
    | false =>
      rw [if_neg (by simp), glue_no] at hinv
      rw [hinv]
      clear ih hinv
      have tsr1 := tys_at ht
      have tsr2 := nds_at hx
      exact dq
    | true =>
      rw [if_pos rfl, glue_some] at hinv
      repeat' (first | refine AK.runP Try.hX Try.mixed 300 rfl ?_ | refine AK.condTe rfl asm ?_ | refine AK.condFe rfl asm ?_ | (refine AK.condS rfl (fun h => ?_) (fun h => ?_) <;> first | (cases h; done) | rw [h] | skip) | refine AK.retQ Try.hX hf rfl rfl ?_ | refine AK.region Try.mixed rfl ?_ | refine AOps.done ?_ | refine AOps.runS Try.hX kn rfl ?_ | refine AOps.index Try.hX rfl rfl rfl rfl rfl rfl rfl rfl rfl rfl (i) rfl (tys_at ht) rfl ?_ | refine AOps.index Try.hX rfl rfl rfl rfl rfl rfl rfl rfl rfl rfl (i) rfl (nds_at hx) rfl ?_ | refine AOps.callq kn rfl rfl rfl rfl (hq) ?_ | refine AOps.box kn rfl rfl rfl rfl rfl rfl ?_ | refine AOps.alloc Try.hX kn rfl rfl rfl rfl rfl rfl rfl ?_ | refine AOps.store Try.hX kn rfl rfl rfl rfl rfl rfl rfl rfl rfl rfl rfl ?_ | refine AOps.buildSlice Try.hX kn rfl rfl rfl rfl rfl rfl rfl rfl rfl rfl rfl rfl ?_ | refine AOps.append Try.hX kn rfl rfl rfl rfl rfl rfl rfl rfl rfl rfl rfl rfl rfl rfl rfl rfl rfl rfl rfl rfl rfl ?_ ?_ | refine AOps.toStr Try.hX kn rfl rfl rfl rfl rfl rfl rfl rfl rfl rfl rfl (by first | exact rfl | exact byte1 _) rfl ?_ | refine AOps.buildArr Try.hX kn rfl rfl rfl rfl rfl rfl rfl rfl ?_ | refine AOps.indexArr Try.hX kn rfl rfl rfl rfl rfl rfl rfl rfl rfl rfl rfl rfl ?_ | refine AOps.runP1 Try.hX kn rfl rfl ?_ | (refine AOps.splitT rfl rfl rfl asm (fun h => ?_) <;> (fail_if_success (cases h; done)) <;> rw [h]) | (refine AOps.splitF rfl rfl rfl asm (fun h => ?_) <;> (fail_if_success (cases h; done)) <;> rw [h]) | (refine AOps.split rfl rfl rfl (fun h => ?_) (fun h => ?_) <;> (fail_if_success (cases h; done)) <;> rw [h]) | refine AOps.drawn (by kernel_rfl) ?_)
      · have h1 := encVls_length acc
        simp only [List.length_cons, List.length_nil]
        omega
      · have hap : encVls acc ++ [encVl (.mk y1 y2 y3 y4 y5 y6 y7)] = encVls (acc ++ [Vl.mk y1 y2 y3 y4 y5 y6 y7]) := (encVls_append acc [_]).symm
        refine AK.ren [] [(6000, (0, some 6000))] (env' := [(17, .c (.int .i64 ((i + 1 : Nat) : Int))), (16, .c (.int .i64 (encNds l).length)), (0, .c (.sl 2 (encTys ts))), (1, .c (.sl 5 (encNds l))), (6, .own (.tok 6000 0) 7 (encVls (acc ++ [Vl.mk y1 y2 y3 y4 y5 y6 y7])))])
          (bs' := []) (ts' := [(6000, 0)]) (us' := [6000])
          ⟨⟨_, rfl, .inl (succ64' (i := i) (by omega))⟩, ⟨_, rfl, .inl rfl⟩, ⟨_, rfl, .inl rfl⟩, ⟨_, rfl, .inl rfl⟩, ⟨_, rfl, ⟨_, rfl, .inr ⟨_, _, rfl, rfl, congrArg (AV.own (.tok 6000 1) 7) hap⟩⟩⟩, trivial⟩ trivial rfl ?_
        exact ih (i + 1, acc ++ [Vl.mk y1 y2 y3 y4 y5 y6 y7]) ⟨h2, by simp [hia], hinv⟩ (by show l.length - (i + 1) < l.length - i; omega)
  · have hc := nds_end he
    have h0 : vRow l ts = (acc, true) := by rw [hinv, he, hlen, List.drop_length, ← hlen, List.drop_length, vRow_nil, glue_end]
    rw [h0]
    clear ih hinv
    exact dq
theorem row_calls (ts : List Ty) (l : List Nd) (hl : l.length ≤ 1099511627776) (hp : ∀ x ∈ l, ∀ t ∈ ts, QCalls Try.prog Try.X 123 [encTy t, encNd x] (.tup [encVl (vPar x t).1, .bool (vPar x t).2])) :
    QCalls Try.prog Try.X 147 [.sl 2 (encTys ts), .sl 5 (encNds l)] (.tup [.sl 7 (encVls (vRow l ts).1), .bool (vRow l ts).2]) := by
  have h := row_calls0 ts l hl hp
  have hf := vRow_false l ts
  rcases hr : vRow l ts with ⟨q, b⟩
  rw [hr] at h hf
  cases b with
  | true => exact h
  | false =>
    obtain rfl := hf rfl
    exact QCalls.weaken (fun G v hv => rel_nil2 hv) h
end Go.Proofs
