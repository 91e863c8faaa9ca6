/- What kind.good and kind.Good, and goodType and GoodType of touchstoneref answer. -/
-- WIDE
-- OLDASM
import Derived.Test.YtcinhjfonmjneaaKind5
set_option linter.unusedVariables false
set_option linter.unusedSimpArgs false
namespace Go.Proofs
open Go.Abs
theorem headComp_calls {args : List Ty} {x : Ty} (h : args[0]? = some x) : headComp args = tComp x := by
  cases args with
  | nil => simp at h
  | cons y l => simp at h; subst h; rfl
theorem kGood_eq (T : Int) (args : List Ty) (d n : Int) (hk : ¬ (d > 24 ∨ n + 1 > 300 ∨ arity T ≠ args.length)) :
    kGood (.mk T args) d n = ((kGoods args (d + 1) (n + 1)).1 && (if T = 13 ∨ T = 15 then headComp args else true), (kGoods args (d + 1) (n + 1)).2) := by
  simp only [kGood, if_neg hk]
  rcases kGoods args (d + 1) (n + 1) with ⟨b, m⟩
  cases b <;> rfl
theorem kGoods_nil (d m : Int) : kGoods [] d m = (true, m) := rfl
theorem kGood_no (T : Int) (args : List Ty) (d n : Int) (hk : d > 24 ∨ n + 1 > 300 ∨ arity T ≠ args.length) : kGood (.mk T args) d n = (false, n + 1) := by
  simp only [kGood, if_pos hk]
theorem kGoods_cons (t : Ty) (l : List Ty) (d n : Int) : kGoods (t :: l) d n = if (kGood t d n).1 then kGoods l d (kGood t d n).2 else (false, (kGood t d n).2) := by
  simp only [kGoods]
  rcases kGood t d n with ⟨b, m⟩
  cases b <;> rfl

attribute [local irreducible] AK AOps QCalls ECalls kGood kGoods headComp tComp
set_option maxHeartbeats 0 in
theorem good_calls : ∀ (t : Ty) (d n : Int), tySize t ≤ 1048577 → 0 ≤ d → d ≤ 1099511627776 - tySize t → 0 ≤ n → n ≤ 300 →
    ECalls Try.prog Try.X 94 [.v (.c (encTy t)), .v (.c (.int .i64 d)), .box [.c (.int .i64 n)]] [.c (.bool (kGood t d n).1)] [(2, [.c (.int .i64 (kGood t d n).2)])]
  | .mk T args => by
    intro d n ht hd0 hd hn0 hn
    simp only [tySize] at ht hd
    have hl1 := tysSize_len args
    have hin : ∀ x ∈ args, ∀ m : Int, 0 ≤ m → m ≤ 300 → ECalls Try.prog Try.X 94 [.v (.c (encTy x)), .v (.c (.int .i64 (IntKind.i64.wrap (d + 1)))), .box [.c (.int .i64 m)]] [.c (.bool (kGood x (d + 1) m).1)] [(2, [.c (.int .i64 (kGood x (d + 1) m).2)])] := by
      intro x hx m h0 h1
      have := tysSize_mem hx
      rw [w64 (by omega) (by omega)]
      exact good_calls x (d + 1) m (by omega) (by omega) (by omega) h0 h1
    have e1 : IntKind.i64.wrap (n + 1) = n + 1 := w64 (by omega) (by omega)
    refine ECalls.ofL Try.func94 rfl (fun args w => Try.call94 args w) (Nat.le_of_ble_eq_true rfl) [(0, .c (encTy (.mk T args))), (1, .c (.int .i64 d)), (2, .ptr 1002000 0)] [(1002000, [.c (.int .i64 n)])] [] [1002000] rfl rfl fun β => ?_; have hf := Try.func94
    repeat' (first | refine AK.runP Try.hX Try.mixed 300 rfl ?_ | refine AK.condTe rfl asmo ?_ | refine AK.condFe rfl asmo ?_ | (refine AK.condS rfl (fun h => ?_) (fun h => ?_) <;> first | (cases h; done) | rw [h] | skip) | refine AK.retE Try.hX hf rfl rfl rfl rfl ?_ (by with_reducible rfl) | refine AK.retE Try.hX hf rfl rfl rfl rfl ?_ ?_ | refine AK.endE Try.hX hf rfl rfl rfl rfl ?_ (by with_reducible rfl) | refine AK.endE Try.hX hf rfl rfl rfl rfl ?_ ?_ | refine AK.region Try.mixed rfl ?_ | refine AOps.done ?_ | refine AOps.runS Try.hX kn rfl ?_ | refine AOps.callq kn rfl rfl rfl rfl (arity_calls T) ?_ | refine AOps.box kn rfl rfl rfl rfl rfl rfl ?_ | refine AOps.alloc Try.hX kn rfl rfl rfl rfl rfl rfl rfl ?_ | refine AOps.store Try.hX kn rfl rfl rfl rfl rfl rfl rfl rfl rfl rfl rfl ?_ | refine AOps.buildSlice Try.hX kn rfl rfl rfl rfl rfl rfl rfl rfl rfl rfl rfl rfl ?_ | refine AOps.append Try.hX kn rfl rfl rfl rfl rfl rfl rfl rfl rfl rfl rfl rfl rfl rfl rfl rfl rfl rfl rfl rfl rfl ?_ ?_ | refine AOps.toStr Try.hX kn rfl rfl rfl rfl rfl rfl rfl rfl rfl rfl rfl (by first | exact rfl | exact byte1 _) rfl ?_ | refine AOps.buildArr Try.hX kn rfl rfl rfl rfl rfl rfl rfl rfl ?_ | refine AOps.indexArr Try.hX kn rfl rfl rfl rfl rfl rfl rfl rfl rfl rfl rfl rfl ?_ | refine AOps.runP1 Try.hX kn rfl rfl ?_ | (refine AOps.splitT rfl rfl rfl asmo (fun h => ?_) <;> (fail_if_success (cases h; done)) <;> rw [h]) | (refine AOps.splitF rfl rfl rfl asmo (fun h => ?_) <;> (fail_if_success (cases h; done)) <;> rw [h]) | (refine AOps.split rfl rfl rfl (fun h => ?_) (fun h => ?_) <;> (fail_if_success (cases h; done)) <;> rw [h]) | refine AOps.drawn (by kernel_rfl) ?_)
    rotate_left 6
    · refine AK.loopE (α := Nat × Int) (fun z => z.1 ≤ args.length ∧ kGoods args (d + 1) (n + 1) = kGoods (args.drop z.1) (d + 1) z.2 ∧ 0 ≤ z.2 ∧ z.2 ≤ 300) (fun z => args.length - z.1)
        (fun z => [(34, .c (.int .i64 z.1)), (33, .c (.int .i64 (encTys args).length)), (32, .c (.sl 2 (encTys args))), (1, .c (.int .i64 d)), (2, .ptr 1002000 0), (3, .ptr 3 0)])
        (fun z => [(3, [.c (.int .i64 T), .c (.sl 2 (encTys args))]), (1002000, [.c (.int .i64 z.2)])]) (fun _ => []) [3, 1002000] (0, n + 1)
        ⟨by omega, rfl, by omega, ?_⟩ ⟨.inl rfl, .inl rfl, .inl rfl, .inl rfl, .inl rfl, .inl rfl, trivial⟩ ⟨rfl, congrArg (fun k => some [AV.c (CV.int .i64 k)]) e1, trivial⟩ trivial rfl rfl rfl ?_
      · simp_all
      rintro ⟨i, m⟩ ⟨hi, hinv, hm0, hm1⟩ ih
      simp only at hi hinv hm0 hm1
      have hk : ¬ (d > 24 ∨ n + 1 > 300 ∨ arity T ≠ args.length) := by
        rename_i g1 g2
        simp only [cond_false, e1, decide_eq_false_iff_not, bne_eq_false_iff_eq, encTys_length] at g1 g2 h
        rintro (hh | hh | hh)
        · omega
        · omega
        · exact hh h
      have hK := kGood_eq T args d n hk
      rcases get_or args i hi with ⟨x, hx, hmem⟩ | he
      · have hc := tys_lt hx
        have hq := hin x hmem m hm0 hm1
        have hle := kGood_le x (d + 1) m hm1
        rw [drop_at hx] at hinv
        rw [kGoods_cons] at hinv
        obtain ⟨U, us⟩ := x
        repeat' (first | refine AK.runP Try.hX Try.mixed 300 rfl ?_ | refine AK.condTe rfl asmo ?_ | refine AK.condFe rfl asmo ?_ | (refine AK.condS rfl (fun h => ?_) (fun h => ?_) <;> first | (cases h; done) | rw [h] | skip) | refine AK.retE Try.hX hf rfl rfl rfl rfl ?_ (by with_reducible rfl) | refine AK.retE Try.hX hf rfl rfl rfl rfl ?_ ?_ | refine AK.endE Try.hX hf rfl rfl rfl rfl ?_ (by with_reducible rfl) | refine AK.endE Try.hX hf rfl rfl rfl rfl ?_ ?_ | refine AK.region Try.mixed rfl ?_ | refine AOps.done ?_ | refine AOps.runS Try.hX kn rfl ?_ | refine AOps.index Try.hX rfl rfl rfl rfl rfl rfl rfl rfl rfl rfl (i) rfl (tys_at hx) rfl ?_ | refine AOps.calle kn rfl rfl (hq) rfl (by (repeat' (first | exact rfl | exact trivial | refine ⟨_, _, rfl, ?_, ?_⟩ | refine ⟨_, _, _, rfl, rfl, ?_, ?_⟩)); done) rfl rfl rfl rfl rfl rfl rfl rfl rfl rfl rfl rfl rfl rfl ?_ | refine AOps.box kn rfl rfl rfl rfl rfl rfl ?_ | refine AOps.alloc Try.hX kn rfl rfl rfl rfl rfl rfl rfl ?_ | refine AOps.store Try.hX kn rfl rfl rfl rfl rfl rfl rfl rfl rfl rfl rfl ?_ | refine AOps.buildSlice Try.hX kn rfl rfl rfl rfl rfl rfl rfl rfl rfl rfl rfl rfl ?_ | refine AOps.append Try.hX kn rfl rfl rfl rfl rfl rfl rfl rfl rfl rfl rfl rfl rfl rfl rfl rfl rfl rfl rfl rfl rfl ?_ ?_ | refine AOps.toStr Try.hX kn rfl rfl rfl rfl rfl rfl rfl rfl rfl rfl rfl (by first | exact rfl | exact byte1 _) rfl ?_ | refine AOps.buildArr Try.hX kn rfl rfl rfl rfl rfl rfl rfl rfl ?_ | refine AOps.indexArr Try.hX kn rfl rfl rfl rfl rfl rfl rfl rfl rfl rfl rfl rfl ?_ | refine AOps.runP1 Try.hX kn rfl rfl ?_ | (refine AOps.splitT rfl rfl rfl asmo (fun h => ?_) <;> (fail_if_success (cases h; done)) <;> rw [h]) | (refine AOps.splitF rfl rfl rfl asmo (fun h => ?_) <;> (fail_if_success (cases h; done)) <;> rw [h]) | (refine AOps.split rfl rfl rfl (fun h => ?_) (fun h => ?_) <;> (fail_if_success (cases h; done)) <;> rw [h]) | refine AOps.drawn (by kernel_rfl) ?_)
        · have hf : (kGood (.mk U us) (d + 1) m).1 = false := by simpa using h
          rw [hf] at hinv
          rw [hK, hinv]; rfl
        · have hf : (kGood (.mk U us) (d + 1) m).1 = false := by simpa using h
          rw [hf] at hinv
          rw [hK, hinv]; rfl
        · have hf : (kGood (.mk U us) (d + 1) m).1 = true := by simpa using h
          rw [hf] at hinv
          refine AK.again (ih (i + 1, (kGood (.mk U us) (d + 1) m).2) ⟨lt_of_get hx, hinv, by omega, hle.2.2 hf⟩ (by have := lt_of_get hx; show args.length - (i + 1) < args.length - i; omega))
            ⟨.inl (succ64 (by have := lt_of_get hx; omega)), .inl rfl, .inl rfl, .inl rfl, .inl rfl, .inl rfl, trivial⟩ ⟨rfl, rfl, trivial⟩ trivial rfl rfl rfl
      · have hc := tys_end he
        have hG : kGoods args (d + 1) (n + 1) = (true, m) := by rw [hinv, he, List.drop_length, kGoods_nil]
        rw [hG] at hK
        by_cases hmt : T = 13 ∨ T = 15
        · obtain ⟨x0, hx0⟩ : ∃ x, args[0]? = some x := by
            have h1 : arity T ≥ 1 := by rcases hmt with rfl | rfl <;> decide
            have h2 : 0 < args.length := by simp only [not_or, ne_eq, Decidable.not_not] at hk; omega
            exact ⟨args[0], by simp [h2]⟩
          have hcq := Comparable_calls x0 (by have := tysSize_mem (List.mem_of_getElem? hx0); omega)
          rw [if_pos hmt, headComp_calls hx0] at hK
          clear ih hin
          obtain ⟨U, us⟩ := x0
          repeat' (first | refine AK.runP Try.hX Try.mixed 300 rfl ?_ | refine AK.condTe rfl asmo ?_ | refine AK.condFe rfl asmo ?_ | (refine AK.condS rfl (fun h => ?_) (fun h => ?_) <;> first | (cases h; done) | rw [h] | skip) | refine AK.retE Try.hX hf rfl rfl rfl rfl ?_ (by with_reducible rfl) | refine AK.retE Try.hX hf rfl rfl rfl rfl ?_ ?_ | refine AK.endE Try.hX hf rfl rfl rfl rfl ?_ (by with_reducible rfl) | refine AK.endE Try.hX hf rfl rfl rfl rfl ?_ ?_ | refine AK.region Try.mixed rfl ?_ | refine AOps.done ?_ | refine AOps.runS Try.hX kn rfl ?_ | refine AOps.index Try.hX rfl rfl rfl rfl rfl rfl rfl rfl rfl rfl (0) rfl (tys_at hx0) rfl ?_ | refine AOps.callq kn rfl rfl rfl rfl (hcq) ?_ | refine AOps.box kn rfl rfl rfl rfl rfl rfl ?_ | refine AOps.alloc Try.hX kn rfl rfl rfl rfl rfl rfl rfl ?_ | refine AOps.store Try.hX kn rfl rfl rfl rfl rfl rfl rfl rfl rfl rfl rfl ?_ | refine AOps.buildSlice Try.hX kn rfl rfl rfl rfl rfl rfl rfl rfl rfl rfl rfl rfl ?_ | refine AOps.append Try.hX kn rfl rfl rfl rfl rfl rfl rfl rfl rfl rfl rfl rfl rfl rfl rfl rfl rfl rfl rfl rfl rfl ?_ ?_ | refine AOps.toStr Try.hX kn rfl rfl rfl rfl rfl rfl rfl rfl rfl rfl rfl (by first | exact rfl | exact byte1 _) rfl ?_ | refine AOps.buildArr Try.hX kn rfl rfl rfl rfl rfl rfl rfl rfl ?_ | refine AOps.indexArr Try.hX kn rfl rfl rfl rfl rfl rfl rfl rfl rfl rfl rfl rfl ?_ | refine AOps.runP1 Try.hX kn rfl rfl ?_ | (refine AOps.splitT rfl rfl rfl asmo (fun h => ?_) <;> (fail_if_success (cases h; done)) <;> rw [h]) | (refine AOps.splitF rfl rfl rfl asmo (fun h => ?_) <;> (fail_if_success (cases h; done)) <;> rw [h]) | (refine AOps.split rfl rfl rfl (fun h => ?_) (fun h => ?_) <;> (fail_if_success (cases h; done)) <;> rw [h]) | refine AOps.drawn (by kernel_rfl) ?_)
          all_goals first
            | (show (_ : List LV) = _; rw [hK]; first | rfl | (simp; done) | (exfalso; simp_all; done))
            | (show (_ : List (Nat × List LV)) = _; rw [hK]; done)
            | (show (_ : List (Nat × List LV)) = _; rw [hK]; rfl)
            | (exfalso; clear hf hK hinv; simp_all; done)
        · rw [if_neg hmt] at hK
          clear ih hin
          repeat' (first | refine AK.runP Try.hX Try.mixed 300 rfl ?_ | refine AK.condTe rfl asmo ?_ | refine AK.condFe rfl asmo ?_ | (refine AK.condS rfl (fun h => ?_) (fun h => ?_) <;> first | (cases h; done) | rw [h] | skip) | refine AK.retE Try.hX hf rfl rfl rfl rfl ?_ (by with_reducible rfl) | refine AK.retE Try.hX hf rfl rfl rfl rfl ?_ ?_ | refine AK.endE Try.hX hf rfl rfl rfl rfl ?_ (by with_reducible rfl) | refine AK.endE Try.hX hf rfl rfl rfl rfl ?_ ?_ | refine AK.region Try.mixed rfl ?_ | refine AOps.done ?_ | refine AOps.runS Try.hX kn rfl ?_ | refine AOps.box kn rfl rfl rfl rfl rfl rfl ?_ | refine AOps.alloc Try.hX kn rfl rfl rfl rfl rfl rfl rfl ?_ | refine AOps.store Try.hX kn rfl rfl rfl rfl rfl rfl rfl rfl rfl rfl rfl ?_ | refine AOps.buildSlice Try.hX kn rfl rfl rfl rfl rfl rfl rfl rfl rfl rfl rfl rfl ?_ | refine AOps.append Try.hX kn rfl rfl rfl rfl rfl rfl rfl rfl rfl rfl rfl rfl rfl rfl rfl rfl rfl rfl rfl rfl rfl ?_ ?_ | refine AOps.toStr Try.hX kn rfl rfl rfl rfl rfl rfl rfl rfl rfl rfl rfl (by first | exact rfl | exact byte1 _) rfl ?_ | refine AOps.buildArr Try.hX kn rfl rfl rfl rfl rfl rfl rfl rfl ?_ | refine AOps.indexArr Try.hX kn rfl rfl rfl rfl rfl rfl rfl rfl rfl rfl rfl rfl ?_ | refine AOps.runP1 Try.hX kn rfl rfl ?_ | (refine AOps.splitT rfl rfl rfl asmo (fun h => ?_) <;> (fail_if_success (cases h; done)) <;> rw [h]) | (refine AOps.splitF rfl rfl rfl asmo (fun h => ?_) <;> (fail_if_success (cases h; done)) <;> rw [h]) | (refine AOps.split rfl rfl rfl (fun h => ?_) (fun h => ?_) <;> (fail_if_success (cases h; done)) <;> rw [h]) | refine AOps.drawn (by kernel_rfl) ?_)
          all_goals first
            | (show (_ : List LV) = _; rw [hK]; first | rfl | (simp; done) | (exfalso; simp_all; done))
            | (show (_ : List (Nat × List LV)) = _; rw [hK]; done)
            | (show (_ : List (Nat × List LV)) = _; rw [hK]; rfl)
            | (exfalso; clear hf hK hinv; simp_all; done)
    all_goals
      have hno : d > 24 ∨ n + 1 > 300 ∨ arity T ≠ args.length := by
        clear hin hf
        first
        | (left; simp_all; done)
        | (right; left; simp_all; done)
        | (right; right; simp_all [encTys_length]; done)
      first
      | (show (_ : List LV) = _; rw [kGood_no T args d n hno])
      | (show (_ : List (Nat × List LV)) = _; rw [kGood_no T args d n hno, e1])
termination_by t => SizeOf.sizeOf t
decreasing_by
  have := List.sizeOf_lt_of_mem hx
  simp at this ⊢; omega
end Go.Proofs
