/- What kind.Good and kind.parse answer. -/
-- WIDE
-- OLDASM
import Derived.Test.YtcinhjfonmjneaaKind6
set_option linter.unusedVariables false
set_option linter.unusedSimpArgs false
namespace Go.Proofs
open Go.Abs
theorem kParse_no (kind nn p : Int) (s : List UInt8) (args : List Nd) (d left : Int) (h : left - 1 < 0 ∨ d > 24 ∨ kind ≠ 2 ∨ nn ≠ 0 ∨ s ≠ [] ∨ arity p ≠ args.length) : kParse (.mk kind nn p s args) d left = (none, left - 1) := by
  simp only [kParse, if_pos h]
theorem kParse_eq (kind nn p : Int) (s : List UInt8) (args : List Nd) (d left : Int) (h : ¬ (left - 1 < 0 ∨ d > 24 ∨ kind ≠ 2 ∨ nn ≠ 0 ∨ s ≠ [] ∨ arity p ≠ args.length)) :
    kParse (.mk kind nn p s args) d left = ((kParses args (d + 1) (left - 1)).1.map (.mk p), (kParses args (d + 1) (left - 1)).2) := by
  simp only [kParse, if_neg h]
  rcases kParses args (d + 1) (left - 1) with ⟨b, m⟩
  cases b <;> rfl
theorem kParses_nil (d m : Int) : kParses [] d m = (some [], m) := rfl
theorem kParses_cons (t : Nd) (l : List Nd) (d n : Int) : kParses (t :: l) d n = match (kParse t d n).1 with
    | some y => ((kParses l d (kParse t d n).2).1.map (y :: ·), (kParses l d (kParse t d n).2).2)
    | none => (none, (kParse t d n).2) := by
  simp only [kParses]
  rcases kParse t d n with ⟨b, m⟩
  cases b with
  | none => rfl
  | some y =>
    simp only
    rcases kParses l d m with ⟨r, m'⟩
    cases r <;> rfl
theorem nds_at {l : List Nd} {i : Nat} {x : Nd} (h : l[i]? = some x) : (encNds l)[i]? = some (encNd x) := by rw [encNds_get, h]; rfl
theorem nds_lt {l : List Nd} {i : Nat} {x : Nd} (h : l[i]? = some x) : decide (((i : Nat) : Int) < (((encNds l).length : Nat) : Int)) = true := dec_lt (by have := lt_of_get h; rw [encNds_length]; omega)
theorem nds_end {l : List Nd} {i : Nat} (h : i = l.length) : decide (((i : Nat) : Int) < (((encNds l).length : Nat) : Int)) = false := dec_ge (by rw [encNds_length]; omega)
theorem encTys_append : ∀ (a : List Ty) (b : List Ty), encTys (a ++ b) = encTys a ++ encTys b
  | [], b => rfl
  | t :: a, b => by simp [encTys, encTys_append a b]
theorem encNds_append : ∀ (a : List Nd) (b : List Nd), encNds (a ++ b) = encNds a ++ encNds b
  | [], b => rfl
  | t :: a, b => by simp [encNds, encNds_append a b]

theorem succ64' {i : Nat} (h : i < 1099511627776) : AV.c (CV.int .i64 (IntKind.i64.wrap ((i : Int) + 1))) = AV.c (CV.int .i64 ((i + 1 : Nat) : Int)) := by
  rw [w64 (by omega) (by omega)]; rfl

/-- The type that is handed back. -/
def optTy : Option Ty → Ty
  | some t => t
  | none => .mk 0 []

attribute [local irreducible] AK AOps QCalls ECalls kGood kGoods headComp tComp kParse kParses

theorem Good_calls (t : Ty) (ht : tySize t ≤ 1048577) : QCalls Try.prog Try.X 47 [encTy t] (.bool (tGood t)) := by
  have hq := good_calls t 1 0 ht (by omega) (by omega) (by omega) (by omega)
  obtain ⟨T, args⟩ := t
  refine QCalls.of Try.func47 rfl (fun args w => Try.call47 args w) (Nat.le_of_ble_eq_true rfl) [(0, .c (encTy (.mk T args)))] rfl fun β hβ => ?_; have hf := Try.func47
  repeat' (first | refine AK.runP Try.hX Try.mixed 300 rfl ?_ | refine AK.condTe rfl asmo ?_ | refine AK.condFe rfl asmo ?_ | (refine AK.condS rfl (fun h => ?_) (fun h => ?_) <;> first | (cases h; done) | rw [h] | skip) | refine AK.retQ Try.hX hf rfl rfl ?_ | refine AK.region Try.mixed rfl ?_ | refine AOps.done ?_ | refine AOps.runS Try.hX kn rfl ?_ | refine AOps.calle kn rfl rfl (hq) rfl (by (repeat' (first | exact rfl | exact trivial | refine ⟨_, _, rfl, ?_, ?_⟩ | refine ⟨_, _, _, rfl, rfl, ?_, ?_⟩)); done) rfl rfl rfl rfl rfl rfl rfl rfl rfl rfl rfl rfl rfl rfl ?_ | refine AOps.box kn rfl rfl rfl rfl rfl rfl ?_ | refine AOps.alloc Try.hX kn rfl rfl rfl rfl rfl rfl rfl ?_ | refine AOps.store Try.hX kn rfl rfl rfl rfl rfl rfl rfl rfl rfl rfl rfl ?_ | refine AOps.buildSlice Try.hX kn rfl rfl rfl rfl rfl rfl rfl rfl rfl rfl rfl rfl ?_ | refine AOps.append Try.hX kn rfl rfl rfl rfl rfl rfl rfl rfl rfl rfl rfl rfl rfl rfl rfl rfl rfl rfl rfl rfl rfl ?_ ?_ | refine AOps.toStr Try.hX kn rfl rfl rfl rfl rfl rfl rfl rfl rfl rfl rfl (by first | exact rfl | exact byte1 _) rfl ?_ | refine AOps.buildArr Try.hX kn rfl rfl rfl rfl rfl rfl rfl rfl ?_ | refine AOps.indexArr Try.hX kn rfl rfl rfl rfl rfl rfl rfl rfl rfl rfl rfl rfl ?_ | refine AOps.runP1 Try.hX kn rfl rfl ?_ | (refine AOps.splitT rfl rfl rfl asmo (fun h => ?_) <;> (fail_if_success (cases h; done)) <;> rw [h]) | (refine AOps.splitF rfl rfl rfl asmo (fun h => ?_) <;> (fail_if_success (cases h; done)) <;> rw [h]) | (refine AOps.split rfl rfl rfl (fun h => ?_) (fun h => ?_) <;> (fail_if_success (cases h; done)) <;> rw [h]) | refine AOps.drawn (by kernel_rfl) ?_)
  rfl

set_option maxHeartbeats 0 in
theorem parse_calls : ∀ (n : Nd) (d left : Int), ndSize n ≤ 1048577 → 0 ≤ d → d ≤ 1099511627776 - ndSize n → 0 ≤ left → left ≤ 300 →
    ECalls Try.prog Try.X 85 [.v (.c (encNd n)), .v (.c (.int .i64 d)), .box [.c (.int .i64 left)]] [.c (encTy (optTy (kParse n d left).1)), .c (.bool (kParse n d left).1.isSome)] [(2, [.c (.int .i64 (kParse n d left).2)])]
  | .mk kind nn p s args => by
    intro d left ht hd0 hd hn0 hn
    simp only [ndSize] at ht hd
    have hl1 := ndsSize_len args
    have hin : ∀ x ∈ args, ∀ m : Int, 0 ≤ m → m ≤ 300 → ECalls Try.prog Try.X 85 [.v (.c (encNd x)), .v (.c (.int .i64 (IntKind.i64.wrap (d + 1)))), .box [.c (.int .i64 m)]] [.c (encTy (optTy (kParse x (d + 1) m).1)), .c (.bool (kParse x (d + 1) m).1.isSome)] [(2, [.c (.int .i64 (kParse x (d + 1) m).2)])] := by
      intro x hx m h0 h1
      have := ndsSize_mem hx
      rw [w64 (by omega) (by omega)]
      exact parse_calls x (d + 1) m (by omega) (by omega) (by omega) h0 h1
    have e1 : IntKind.i64.wrap (left - 1) = left - 1 := w64 (by omega) (by omega)
    refine ECalls.ofL Try.func85 rfl (fun args w => Try.call85 args w) (Nat.le_of_ble_eq_true rfl) [(0, .c (encNd (.mk kind nn p s args))), (1, .c (.int .i64 d)), (2, .ptr 1002000 0)] [(1002000, [.c (.int .i64 left)])] [] [1002000] rfl rfl fun β => ?_; have hf := Try.func85
    repeat' (first | refine AK.runP Try.hX Try.mixed 300 rfl ?_ | refine AK.condTe rfl asmo ?_ | refine AK.condFe rfl asmo ?_ | (refine AK.condS rfl (fun h => ?_) (fun h => ?_) <;> first | (cases h; done) | rw [h] | skip) | refine AK.retE Try.hX hf rfl rfl rfl rfl ?_ (by with_reducible rfl) | refine AK.retE Try.hX hf rfl rfl rfl rfl ?_ ?_ | refine AK.endE Try.hX hf rfl rfl rfl rfl ?_ (by with_reducible rfl) | refine AK.endE Try.hX hf rfl rfl rfl rfl ?_ ?_ | refine AK.region Try.mixed rfl ?_ | refine AOps.done ?_ | refine AOps.runS Try.hX kn rfl ?_ | refine AOps.callq kn rfl rfl rfl rfl (arity_calls p) ?_ | refine AOps.box kn rfl rfl rfl rfl rfl rfl ?_ | refine AOps.alloc Try.hX kn rfl rfl rfl rfl rfl rfl rfl ?_ | refine AOps.store Try.hX kn rfl rfl rfl rfl rfl rfl rfl rfl rfl rfl rfl ?_ | refine AOps.buildSlice Try.hX kn rfl rfl rfl rfl rfl rfl rfl rfl rfl rfl rfl rfl ?_ | refine AOps.append Try.hX kn rfl rfl rfl rfl rfl rfl rfl rfl rfl rfl rfl rfl rfl rfl rfl rfl rfl rfl rfl rfl rfl ?_ ?_ | refine AOps.toStr Try.hX kn rfl rfl rfl rfl rfl rfl rfl rfl rfl rfl rfl (by first | exact rfl | exact byte1 _) rfl ?_ | refine AOps.buildArr Try.hX kn rfl rfl rfl rfl rfl rfl rfl rfl ?_ | refine AOps.indexArr Try.hX kn rfl rfl rfl rfl rfl rfl rfl rfl rfl rfl rfl rfl ?_ | refine AOps.runP1 Try.hX kn rfl rfl ?_ | (refine AOps.splitT rfl rfl rfl asmo (fun h => ?_) <;> (fail_if_success (cases h; done)) <;> rw [h]) | (refine AOps.splitF rfl rfl rfl asmo (fun h => ?_) <;> (fail_if_success (cases h; done)) <;> rw [h]) | (refine AOps.split rfl rfl rfl (fun h => ?_) (fun h => ?_) <;> (fail_if_success (cases h; done)) <;> rw [h]) | refine AOps.drawn (by kernel_rfl) ?_)
    rotate_left 12
    · refine AK.ren [(6, 6), (8, 8), (1002000, 1002000)] [(8000, (0, none))] (env' := [(57, .c (.int .i64 (0 : Nat))), (56, .c (.int .i64 (encNds args).length)), (55, .c (.sl 5 (encNds args))), (1, .c (.int .i64 d)), (2, .ptr 1002000 0), (6, .ptr 6 0), (8, .ptr 8 0)])
        (bs' := [(6, [.c (.int .i64 0), .own .exact 2 []]), (8, [.c (.int .i64 p), .own (.tok 8000 0) 2 []]), (1002000, [.c (.int .i64 (left - 1))])]) (ts' := [(8000, 0)]) (us' := [6, 8, 1002000, 8000])
        ⟨⟨_, rfl, .inl rfl⟩, ⟨_, rfl, .inl rfl⟩, ⟨_, rfl, .inl rfl⟩, ⟨_, rfl, .inl rfl⟩, ⟨_, rfl, ⟨_, rfl, rfl⟩⟩, ⟨_, rfl, ⟨_, rfl, rfl⟩⟩, ⟨_, rfl, ⟨_, rfl, rfl⟩⟩, trivial⟩
        ⟨⟨_, _, rfl, rfl, ⟨_, _, rfl, .inl rfl, ⟨_, _, rfl, rfl, rfl⟩⟩⟩, ⟨_, _, rfl, rfl, ⟨_, _, rfl, .inl rfl, ⟨_, _, rfl, ⟨_, rfl, .inl ⟨rfl, _, rfl, .inr rfl⟩⟩, rfl⟩⟩⟩, ⟨_, _, rfl, rfl, ⟨_, _, rfl, .inl (congrArg (fun k => AV.c (.int .i64 k)) e1), rfl⟩⟩, trivial⟩ rfl ?_
      refine AK.loopE (α := Nat × List Ty × Int) (fun z => z.1 ≤ args.length ∧ z.1 = z.2.1.length ∧ kParses args (d + 1) (left - 1) = ((kParses (args.drop z.1) (d + 1) z.2.2).1.map (z.2.1 ++ ·), (kParses (args.drop z.1) (d + 1) z.2.2).2) ∧ 0 ≤ z.2.2 ∧ z.2.2 ≤ 300) (fun z => args.length - z.1)
        (fun z => [(57, .c (.int .i64 z.1)), (56, .c (.int .i64 (encNds args).length)), (55, .c (.sl 5 (encNds args))), (1, .c (.int .i64 d)), (2, .ptr 1002000 0), (6, .ptr 6 0), (8, .ptr 8 0)])
        (fun z => [(6, [.c (.int .i64 0), .own .exact 2 []]), (8, [.c (.int .i64 p), .own (.tok 8000 0) 2 (encTys z.2.1)]), (1002000, [.c (.int .i64 z.2.2)])]) (fun _ => [(8000, 0)]) [6, 8, 1002000, 8000] (0, [], left - 1)
        ⟨by omega, rfl, by simp, ?_, by show left - 1 ≤ 300; omega⟩ ⟨.inl rfl, .inl rfl, .inl rfl, .inl rfl, .inl rfl, .inl rfl, .inl rfl, trivial⟩ ⟨rfl, rfl, rfl, trivial⟩ ⟨rfl, trivial⟩ rfl rfl rfl ?_
      · have : ¬ (left - 1 < 0) := by simp_all
        show 0 ≤ left - 1
        omega
      rintro ⟨i, acc, m⟩ ⟨hi, hia, hinv, hm0, hm1⟩ ih
      simp only at hi hia hinv hm0 hm1
      have hk : ¬ (left - 1 < 0 ∨ d > 24 ∨ kind ≠ 2 ∨ nn ≠ 0 ∨ s ≠ [] ∨ arity p ≠ args.length) := by
        clear ih hin hf
        simp_all [encNds_length]
      have hK := kParse_eq kind nn p s args d left hk
      rcases get_or args i hi with ⟨x, hx, hmem⟩ | he
      · have hc := nds_lt hx
        have hq := hin x hmem m hm0 hm1
        have hle := kParse_le x (d + 1) m hm0
        rw [drop_at hx, kParses_cons] at hinv
        rcases hr : kParse x (d + 1) m with ⟨b, m'⟩
        rw [hr] at hq hle hinv
        obtain ⟨xk, xn, xp, xs, xa⟩ := x
        cases b with
        | none =>
          simp only [optTy, Option.isSome_none] at hq hinv
          repeat' (first | refine AK.runP Try.hX Try.mixed 300 rfl ?_ | refine AK.condTe rfl asmo ?_ | refine AK.condFe rfl asmo ?_ | (refine AK.condS rfl (fun h => ?_) (fun h => ?_) <;> first | (cases h; done) | rw [h] | skip) | refine AK.retE Try.hX hf rfl rfl rfl rfl ?_ (by with_reducible rfl) | refine AK.retE Try.hX hf rfl rfl rfl rfl ?_ ?_ | refine AK.endE Try.hX hf rfl rfl rfl rfl ?_ (by with_reducible rfl) | refine AK.endE Try.hX hf rfl rfl rfl rfl ?_ ?_ | refine AK.region Try.mixed rfl ?_ | refine AOps.done ?_ | refine AOps.runS Try.hX kn rfl ?_ | refine AOps.index Try.hX rfl rfl rfl rfl rfl rfl rfl rfl rfl rfl (i) rfl (nds_at hx) rfl ?_ | refine AOps.calle kn rfl rfl (hq) rfl (by (repeat' (first | exact rfl | exact trivial | refine ⟨_, _, rfl, ?_, ?_⟩ | refine ⟨_, _, _, rfl, rfl, ?_, ?_⟩)); done) rfl rfl rfl rfl rfl rfl rfl rfl rfl rfl rfl rfl rfl rfl ?_ | refine AOps.box kn rfl rfl rfl rfl rfl rfl ?_ | refine AOps.alloc Try.hX kn rfl rfl rfl rfl rfl rfl rfl ?_ | refine AOps.store Try.hX kn rfl rfl rfl rfl rfl rfl rfl rfl rfl rfl rfl ?_ | refine AOps.buildSlice Try.hX kn rfl rfl rfl rfl rfl rfl rfl rfl rfl rfl rfl rfl ?_ | refine AOps.append Try.hX kn rfl rfl rfl rfl rfl rfl rfl rfl rfl rfl rfl rfl rfl rfl rfl rfl rfl rfl rfl rfl rfl ?_ ?_ | refine AOps.toStr Try.hX kn rfl rfl rfl rfl rfl rfl rfl rfl rfl rfl rfl (by first | exact rfl | exact byte1 _) rfl ?_ | refine AOps.buildArr Try.hX kn rfl rfl rfl rfl rfl rfl rfl rfl ?_ | refine AOps.indexArr Try.hX kn rfl rfl rfl rfl rfl rfl rfl rfl rfl rfl rfl rfl ?_ | refine AOps.runP1 Try.hX kn rfl rfl ?_ | (refine AOps.splitT rfl rfl rfl asmo (fun h => ?_) <;> (fail_if_success (cases h; done)) <;> rw [h]) | (refine AOps.splitF rfl rfl rfl asmo (fun h => ?_) <;> (fail_if_success (cases h; done)) <;> rw [h]) | (refine AOps.split rfl rfl rfl (fun h => ?_) (fun h => ?_) <;> (fail_if_success (cases h; done)) <;> rw [h]) | refine AOps.drawn (by kernel_rfl) ?_)
          · rw [hK, hinv]; rfl
          · rw [hK, hinv]
        | some y =>
          obtain ⟨U, us⟩ := y
          simp only [optTy, Option.isSome_some] at hq hinv
          repeat' (first | refine AK.runP Try.hX Try.mixed 300 rfl ?_ | refine AK.condTe rfl asmo ?_ | refine AK.condFe rfl asmo ?_ | (refine AK.condS rfl (fun h => ?_) (fun h => ?_) <;> first | (cases h; done) | rw [h] | skip) | refine AK.retE Try.hX hf rfl rfl rfl rfl ?_ (by with_reducible rfl) | refine AK.retE Try.hX hf rfl rfl rfl rfl ?_ ?_ | refine AK.endE Try.hX hf rfl rfl rfl rfl ?_ (by with_reducible rfl) | refine AK.endE Try.hX hf rfl rfl rfl rfl ?_ ?_ | refine AK.region Try.mixed rfl ?_ | refine AOps.done ?_ | refine AOps.runS Try.hX kn rfl ?_ | refine AOps.index Try.hX rfl rfl rfl rfl rfl rfl rfl rfl rfl rfl (i) rfl (nds_at hx) rfl ?_ | refine AOps.calle kn rfl rfl (hq) rfl (by (repeat' (first | exact rfl | exact trivial | refine ⟨_, _, rfl, ?_, ?_⟩ | refine ⟨_, _, _, rfl, rfl, ?_, ?_⟩)); done) rfl rfl rfl rfl rfl rfl rfl rfl rfl rfl rfl rfl rfl rfl ?_ | refine AOps.box kn rfl rfl rfl rfl rfl rfl ?_ | refine AOps.alloc Try.hX kn rfl rfl rfl rfl rfl rfl rfl ?_ | refine AOps.store Try.hX kn rfl rfl rfl rfl rfl rfl rfl rfl rfl rfl rfl ?_ | refine AOps.buildSlice Try.hX kn rfl rfl rfl rfl rfl rfl rfl rfl rfl rfl rfl rfl ?_ | refine AOps.append Try.hX kn rfl rfl rfl rfl rfl rfl rfl rfl rfl rfl rfl rfl rfl rfl rfl rfl rfl rfl rfl rfl rfl ?_ ?_ | refine AOps.toStr Try.hX kn rfl rfl rfl rfl rfl rfl rfl rfl rfl rfl rfl (by first | exact rfl | exact byte1 _) rfl ?_ | refine AOps.buildArr Try.hX kn rfl rfl rfl rfl rfl rfl rfl rfl ?_ | refine AOps.indexArr Try.hX kn rfl rfl rfl rfl rfl rfl rfl rfl rfl rfl rfl rfl ?_ | refine AOps.runP1 Try.hX kn rfl rfl ?_ | (refine AOps.splitT rfl rfl rfl asmo (fun h => ?_) <;> (fail_if_success (cases h; done)) <;> rw [h]) | (refine AOps.splitF rfl rfl rfl asmo (fun h => ?_) <;> (fail_if_success (cases h; done)) <;> rw [h]) | (refine AOps.split rfl rfl rfl (fun h => ?_) (fun h => ?_) <;> (fail_if_success (cases h; done)) <;> rw [h]) | refine AOps.drawn (by kernel_rfl) ?_)
          · have h1 := encTys_length acc
            have h2 := lt_of_get hx
            simp only [List.length_cons, List.length_nil]
            omega
          · have hap : encTys acc ++ [encTy (.mk U us)] = encTys (acc ++ [Ty.mk U us]) := (encTys_append acc [.mk U us]).symm
            refine AK.ren [(6, 6), (8, 8), (1002000, 1002000)] [(8000, (0, some 8000))] (env' := [(57, .c (.int .i64 ((i + 1 : Nat) : Int))), (56, .c (.int .i64 (encNds args).length)), (55, .c (.sl 5 (encNds args))), (1, .c (.int .i64 d)), (2, .ptr 1002000 0), (6, .ptr 6 0), (8, .ptr 8 0)])
              (bs' := [(6, [.c (.int .i64 0), .own .exact 2 []]), (8, [.c (.int .i64 p), .own (.tok 8000 0) 2 (encTys (acc ++ [Ty.mk U us]))]), (1002000, [.c (.int .i64 m')])]) (ts' := [(8000, 0)]) (us' := [6, 8, 1002000, 8000])
              ⟨⟨_, rfl, .inl (succ64' (i := i) (by have := lt_of_get hx; omega))⟩, ⟨_, rfl, .inl rfl⟩, ⟨_, rfl, .inl rfl⟩, ⟨_, rfl, .inl rfl⟩, ⟨_, rfl, ⟨_, rfl, rfl⟩⟩, ⟨_, rfl, ⟨_, rfl, rfl⟩⟩, ⟨_, rfl, ⟨_, rfl, rfl⟩⟩, trivial⟩
              ⟨⟨_, _, rfl, rfl, ⟨_, _, rfl, .inl rfl, ⟨_, _, rfl, rfl, rfl⟩⟩⟩, ⟨_, _, rfl, rfl, ⟨_, _, rfl, .inl rfl, ⟨_, _, rfl, ⟨_, rfl, .inr ⟨_, _, rfl, rfl, congrArg (AV.own (.tok 8000 1) 2) hap⟩⟩, rfl⟩⟩⟩, ⟨_, _, rfl, rfl, ⟨_, _, rfl, .inl rfl, rfl⟩⟩, trivial⟩ rfl ?_
            refine ih (i + 1, acc ++ [Ty.mk U us], m') ⟨lt_of_get hx, by simp [hia], ?_, ?_, ?_⟩ (by have := lt_of_get hx; show args.length - (i + 1) < args.length - i; omega)
            · show kParses args (d + 1) (left - 1) = _
              rw [hinv]
              rcases kParses (List.drop (i + 1) args) (d + 1) m' with ⟨r, m2⟩
              cases r <;> simp
            · exact hle.2.2 (by simp)
            · have := hle.1; show m' ≤ 300; simp only at this; omega
      · have hc := nds_end he
        have hG : kParses args (d + 1) (left - 1) = (some acc, m) := by rw [hinv, he, List.drop_length, kParses_nil]; simp
        rw [hG] at hK
        clear ih hin
        repeat' (first | refine AK.runP Try.hX Try.mixed 300 rfl ?_ | refine AK.condTe rfl asmo ?_ | refine AK.condFe rfl asmo ?_ | (refine AK.condS rfl (fun h => ?_) (fun h => ?_) <;> first | (cases h; done) | rw [h] | skip) | refine AK.retE Try.hX hf rfl rfl rfl rfl ?_ (by with_reducible rfl) | refine AK.retE Try.hX hf rfl rfl rfl rfl ?_ ?_ | refine AK.endE Try.hX hf rfl rfl rfl rfl ?_ (by with_reducible rfl) | refine AK.endE Try.hX hf rfl rfl rfl rfl ?_ ?_ | refine AK.region Try.mixed rfl ?_ | refine AOps.done ?_ | refine AOps.runS Try.hX kn rfl ?_ | refine AOps.box kn rfl rfl rfl rfl rfl rfl ?_ | refine AOps.alloc Try.hX kn rfl rfl rfl rfl rfl rfl rfl ?_ | refine AOps.store Try.hX kn rfl rfl rfl rfl rfl rfl rfl rfl rfl rfl rfl ?_ | refine AOps.buildSlice Try.hX kn rfl rfl rfl rfl rfl rfl rfl rfl rfl rfl rfl rfl ?_ | refine AOps.append Try.hX kn rfl rfl rfl rfl rfl rfl rfl rfl rfl rfl rfl rfl rfl rfl rfl rfl rfl rfl rfl rfl rfl ?_ ?_ | refine AOps.toStr Try.hX kn rfl rfl rfl rfl rfl rfl rfl rfl rfl rfl rfl (by first | exact rfl | exact byte1 _) rfl ?_ | refine AOps.buildArr Try.hX kn rfl rfl rfl rfl rfl rfl rfl rfl ?_ | refine AOps.indexArr Try.hX kn rfl rfl rfl rfl rfl rfl rfl rfl rfl rfl rfl rfl ?_ | refine AOps.runP1 Try.hX kn rfl rfl ?_ | (refine AOps.splitT rfl rfl rfl asmo (fun h => ?_) <;> (fail_if_success (cases h; done)) <;> rw [h]) | (refine AOps.splitF rfl rfl rfl asmo (fun h => ?_) <;> (fail_if_success (cases h; done)) <;> rw [h]) | (refine AOps.split rfl rfl rfl (fun h => ?_) (fun h => ?_) <;> (fail_if_success (cases h; done)) <;> rw [h]) | refine AOps.drawn (by kernel_rfl) ?_)
        · rw [hK]; rfl
        · rw [hK]
    all_goals
      have hno : left - 1 < 0 ∨ d > 24 ∨ kind ≠ 2 ∨ nn ≠ 0 ∨ s ≠ [] ∨ arity p ≠ args.length := by
        clear hin hf
        first
        | (left; simp_all; done)
        | (right; left; simp_all; done)
        | (right; right; left; simp_all; done)
        | (right; right; right; left; simp_all; done)
        | (right; right; right; right; left; simp_all; done)
        | (right; right; right; right; right; simp_all [encNds_length]; done)
      first
      | (show (_ : List LV) = _; rw [kParse_no kind nn p s args d left hno]; rfl)
      | (show (_ : List (Nat × List LV)) = _; rw [kParse_no kind nn p s args d left hno, e1])
termination_by t => SizeOf.sizeOf t
decreasing_by
  have := List.sizeOf_lt_of_mem hx
  simp at this ⊢; omega
end Go.Proofs
