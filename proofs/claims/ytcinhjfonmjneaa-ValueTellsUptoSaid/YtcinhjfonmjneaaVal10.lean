/- What nodes, node, Node, Told, Pack, Parse and Unpack of package value answer. -/
import Derived.Test.YtcinhjfonmjneaaVal8
import Derived.Test.YtcinhjfonmjneaaTree6
import Derived.Test.YtcinhjfonmjneaaTree2
import Derived.Test.YtcinhjfonmjneaaBits
import Derived.Test.YtcinhjfonmjneaaEnd
import Derived.Test.YtcinhjfonmjneaaRPure
set_option linter.unusedVariables false
set_option linter.unusedSimpArgs false
set_option maxRecDepth 100000
namespace Go.Proofs
open Go.Abs
theorem kids {k n a : Int} {s : List UInt8} {args : List Vl} {types : List Ty} {code : List Nd} {t : Ty} (h : vHas (.mk k n a s args types code) t = true) (hb : tBad t = false) (hk : k = 9 ∨ k = 10 ∨ k = 11 ∨ k = 12 ∨ k = 13) :
    ∀ x ∈ args, ∃ u, tBad u = false ∧ vHas x u = true := by
  intro x hx
  have h0 := (vHas_head h).1
  have hbd := vHas_body h
  obtain ⟨har, hbs⟩ := tBad_args hb
  rw [← h0] at har
  rcases hk with rfl | rfl | rfl | rfl | rfl
  · simp [vBody] at hbd
    have : arity 9 = 1 := by decide
    exact ⟨_, tBads_mem hbs (tyArg_mem (i := 0) (by omega)), (vHasAll_iff _ _).1 hbd.2 x hx⟩
  · simp [vBody] at hbd
    have : arity 10 = 1 := by decide
    exact ⟨_, tBads_mem hbs (tyArg_mem (i := 0) (by omega)), (vHasAll_iff _ _).1 hbd.2 x hx⟩
  · simp [vBody] at hbd
    have : arity 11 = 2 := by decide
    obtain ⟨y, z, u, w, e1, e2, e3, e4⟩ := row_two hbd.1.2 (by omega) hbd.2
    rw [e2] at hbs
    rw [e1] at hx
    simp only [List.mem_cons, List.not_mem_nil, or_false] at hx
    rcases hx with rfl | rfl
    · exact ⟨u, tBads_mem hbs (by simp), e3⟩
    · exact ⟨w, tBads_mem hbs (by simp), e4⟩
  · simp [vBody] at hbd
    have : arity 12 = 2 := by decide
    exact ⟨_, tBads_mem hbs (tyArg_mem (i := n.toNat) (by omega)), (vHasAll_iff _ _).1 hbd.2 x hx⟩
  · simp [vBody] at hbd
    have : arity 13 = 2 := by decide
    refine ⟨.mk 11 (tyArgs t), ?_, (vHasAll_iff _ _).1 hbd.1.2 x hx⟩
    simp only [tBad, Bool.or_eq_false_iff]
    exact ⟨decide_eq_false (by simp; have : arity 11 = 2 := by decide
                               omega), hbs⟩
theorem kids2 {x : Vl} {ts : List Ty} (h : vHas x (.mk 11 ts) = true) : vK x = 11 := by
  cases x with | mk k n a s args types code => exact (vHas_head h).1
theorem rel_agg5 {G : Imm} {a b c d : CV} {s t : Nat} {v : Value} (h : Rel G (.agg [a, b, c, d, .sl s []]) v) : Rel G (.agg [a, b, c, d, .sl t []]) v := by
  rw [Rel] at h ⊢
  obtain ⟨vs, e1, e2, e3⟩ := h
  refine ⟨vs, e1, ?_, ?_⟩
  · rw [RelL] at e2 ⊢
    obtain ⟨u1, v1, f1, f2, e2⟩ := e2
    refine ⟨u1, v1, f1, f2, ?_⟩
    rw [RelL] at e2 ⊢
    obtain ⟨u2, v2, f3, f4, e2⟩ := e2
    refine ⟨u2, v2, f3, f4, ?_⟩
    rw [RelL] at e2 ⊢
    obtain ⟨u3, v3, f5, f6, e2⟩ := e2
    refine ⟨u3, v3, f5, f6, ?_⟩
    rw [RelL] at e2 ⊢
    obtain ⟨u4, v4, f7, f8, e2⟩ := e2
    refine ⟨u4, v4, f7, f8, ?_⟩
    rw [RelL] at e2 ⊢
    obtain ⟨u5, v5, f9, fa, fb⟩ := e2
    exact ⟨u5, v5, f9, rel_nil fa, fb⟩
  · simp only [List.all_cons, List.all_nil, Bool.and_true, Bool.and_eq_true] at e3 ⊢
    exact ⟨e3.1, e3.2.1, e3.2.2.1, e3.2.2.2.1, rfl⟩
theorem vNodes_cons (x : Vl) (l : List Vl) : vNodes (x :: l) = vNode x :: vNodes l := by simp only [vNodes]
theorem vNodes_nil : vNodes [] = [] := by simp only [vNodes]
theorem vElts_cons (k n a : Int) (s : List UInt8) (args : List Vl) (types : List Ty) (code : List Nd) (l : List Vl) : vElts (.mk k n a s args types code :: l) = .mk 2 0 28 [] (vNodes args) :: vElts l := by simp only [vElts]
theorem vElts_nil : vElts [] = [] := by simp only [vElts]
theorem vNode_1 (n a : Int) (s : List UInt8) (args : List Vl) (types : List Ty) (code : List Nd) : vNode (.mk 1 n a s args types code) = .mk 2 0 20 [] [] := by simp [vNode]
theorem vNode_2 (n a : Int) (s : List UInt8) (args : List Vl) (types : List Ty) (code : List Nd) : vNode (.mk 2 n a s args types code) = .mk 2 0 (22 - n) [] [] := by simp [vNode]
theorem vNode_6 (n a : Int) (s : List UInt8) (args : List Vl) (types : List Ty) (code : List Nd) : vNode (.mk 6 n a s args types code) = .mk 1 0 0 s [] := by simp [vNode]
theorem vNode_9 (n a : Int) (s : List UInt8) (args : List Vl) (types : List Ty) (code : List Nd) : vNode (.mk 9 n a s args types code) = .mk 2 0 (27 - args.length) [] (vNodes args) := by simp [vNode]
theorem vNode_10 (n a : Int) (s : List UInt8) (args : List Vl) (types : List Ty) (code : List Nd) : vNode (.mk 10 n a s args types code) = .mk 3 0 0 [] (vNodes args) := by simp [vNode]
theorem vNode_11 (n a : Int) (s : List UInt8) (args : List Vl) (types : List Ty) (code : List Nd) : vNode (.mk 11 n a s args types code) = .mk 2 0 23 [] (vNodes args) := by simp [vNode]
theorem vNode_12 (n a : Int) (s : List UInt8) (args : List Vl) (types : List Ty) (code : List Nd) : vNode (.mk 12 n a s args types code) = .mk 2 0 (24 + n) [] (vNodes args) := by simp [vNode]
theorem vNode_13 (n a : Int) (s : List UInt8) (args : List Vl) (types : List Ty) (code : List Nd) : vNode (.mk 13 n a s args types code) = .mk 3 0 0 [] (vElts args) := by simp [vNode]
theorem vNode_x (k n a : Int) (h : ¬ (k = 1 ∨ k = 2 ∨ k = 6 ∨ k = 9 ∨ k = 10 ∨ k = 11 ∨ k = 12 ∨ k = 13)) (s : List UInt8) (args : List Vl) (types : List Ty) (code : List Nd) : vNode (.mk k n a s args types code) = .mk 0 n 0 [] [] := by
  simp only [not_or] at h; simp [vNode, h]
attribute [local irreducible] AK AOps QCalls ECalls vNode vNodes vElts tHas vHas tGoodN tDecode bytesN vPar tGood tPack

theorem vprim_calls (p : Int) (l : List Nd) : QCalls Try.prog Try.X 144 [.int .i64 p, .sl 5 (encNds l)] (encNd (.mk 2 0 p [] l)) := by
  refine QCalls.of Try.func144 rfl (fun args w => Try.call144 args w) (Nat.le_of_ble_eq_true rfl) [(0, .c (.int .i64 p)), (1, .c (.sl 5 (encNds l)))] rfl fun β hβ => ?_; have hf := Try.func144
  exact dq
theorem vprim0_calls (p : Int) : QCalls Try.prog Try.X 144 [.int .i64 p, .sl 0 []] (encNd (.mk 2 0 p [] [])) := by
  have h : QCalls Try.prog Try.X 144 [.int .i64 p, .sl 0 []] (.agg [.int .i64 2, .int .i64 0, .int .i64 p, .str [], .sl 0 []]) := by
    refine QCalls.of Try.func144 rfl (fun args w => Try.call144 args w) (Nat.le_of_ble_eq_true rfl) [(0, .c (.int .i64 p)), (1, .c (.sl 0 []))] rfl fun β hβ => ?_; have hf := Try.func144
    exact dq
  exact QCalls.weaken (fun G v hv => rel_agg5 hv) h

set_option maxHeartbeats 0 in
theorem nodes_calls (l : List Vl) (hl : l.length ≤ 1099511627776) (hp : ∀ x ∈ l, QCalls Try.prog Try.X 119 [encVl x] (encNd (vNode x))) : QCalls Try.prog Try.X 145 [.sl 7 (encVls l)] (.sl 5 (encNds (vNodes l))) := by
  refine QCalls.of Try.func145 rfl (fun args w => Try.call145 args w) (Nat.le_of_ble_eq_true rfl) [(0, .c (.sl 7 (encVls l)))] rfl fun β hβ => ?_; have hf := Try.func145
  repeat' (first | refine AK.runP Try.hX Try.mixed 300 rfl ?_ | refine AK.condTe rfl asm ?_ | refine AK.condFe rfl asm ?_ | (refine AK.condS rfl (fun h => ?_) (fun h => ?_) <;> first | (cases h; done) | rw [h] | skip) | refine AK.retQ Try.hX hf rfl rfl ?_ | refine AK.region Try.mixed rfl ?_ | refine AOps.done ?_ | refine AOps.runS Try.hX kn rfl ?_ | refine AOps.box kn rfl rfl rfl rfl rfl rfl ?_ | refine AOps.alloc Try.hX kn rfl rfl rfl rfl rfl rfl rfl ?_ | refine AOps.store Try.hX kn rfl rfl rfl rfl rfl rfl rfl rfl rfl rfl rfl ?_ | refine AOps.buildSlice Try.hX kn rfl rfl rfl rfl rfl rfl rfl rfl rfl rfl rfl rfl ?_ | refine AOps.append Try.hX kn rfl rfl rfl rfl rfl rfl rfl rfl rfl rfl rfl rfl rfl rfl rfl rfl rfl rfl rfl rfl rfl ?_ ?_ | refine AOps.toStr Try.hX kn rfl rfl rfl rfl rfl rfl rfl rfl rfl rfl rfl (by first | exact rfl | exact byte1 _) rfl ?_ | refine AOps.buildArr Try.hX kn rfl rfl rfl rfl rfl rfl rfl rfl ?_ | refine AOps.indexArr Try.hX kn rfl rfl rfl rfl rfl rfl rfl rfl rfl rfl rfl rfl ?_ | refine AOps.runP1 Try.hX kn rfl rfl ?_ | (refine AOps.splitT rfl rfl rfl asm (fun h => ?_) <;> (fail_if_success (cases h; done)) <;> rw [h]) | (refine AOps.splitF rfl rfl rfl asm (fun h => ?_) <;> (fail_if_success (cases h; done)) <;> rw [h]) | (refine AOps.split rfl rfl rfl (fun h => ?_) (fun h => ?_) <;> (fail_if_success (cases h; done)) <;> rw [h]) | refine AOps.drawn (by kernel_rfl) ?_)
  refine AK.ren [] [(6000, (0, none))] (env' := [(8, .c (.int .i64 (0 : Nat))), (7, .c (.int .i64 (encVls l).length)), (6, .c (.sl 7 (encVls l))), (3, .own (.tok 6000 0) 5 [])])
    (bs' := []) (ts' := [(6000, 0)]) (us' := [6000])
    ⟨⟨_, rfl, .inl rfl⟩, ⟨_, rfl, .inl rfl⟩, ⟨_, rfl, .inl rfl⟩, ⟨_, rfl, ⟨_, rfl, .inl ⟨rfl, _, rfl, .inr rfl⟩⟩⟩, trivial⟩ trivial rfl ?_
  refine AK.loopE (α := Nat × List Nd) (fun z => z.1 ≤ l.length ∧ z.1 = z.2.length ∧ vNodes l = z.2 ++ vNodes (l.drop z.1)) (fun z => l.length - z.1)
    (fun z => [(8, .c (.int .i64 z.1)), (7, .c (.int .i64 (encVls l).length)), (6, .c (.sl 7 (encVls l))), (3, .own (.tok 6000 0) 5 (encNds z.2))]) (fun _ => []) (fun _ => [(6000, 0)]) [6000] (0, [])
    ⟨by omega, rfl, by simp⟩ ⟨.inl rfl, .inl rfl, .inl rfl, .inl rfl, trivial⟩ trivial ⟨rfl, trivial⟩ rfl rfl rfl ?_
  rintro ⟨i, acc⟩ ⟨hi, hia, hinv⟩ ih
  simp only at hi hia hinv
  rcases get_or l i hi with ⟨x, hx, hm⟩ | he
  · have hc := vls_lt hx
    have h2 := lt_of_get hx
    have hq := hp x hm
    rw [drop_at hx, vNodes_cons] at hinv
    rw [show ∀ (a : List Nd) (b : Nd) (c : List Nd), a ++ b :: c = a ++ [b] ++ c from fun a b c => by simp] at hinv
    rcases hr : vNode x with ⟨y1, y2, y3, y4, y5⟩
    rw [hr] at hq hinv
    obtain ⟨x1, x2, x3, x4, x5, x6, x7⟩ := x
    repeat' (first | refine AK.runP Try.hX Try.mixed 300 rfl ?_ | refine AK.condTe rfl asm ?_ | refine AK.condFe rfl asm ?_ | (refine AK.condS rfl (fun h => ?_) (fun h => ?_) <;> first | (cases h; done) | rw [h] | skip) | refine AK.retQ Try.hX hf rfl rfl ?_ | refine AK.region Try.mixed rfl ?_ | refine AOps.done ?_ | refine AOps.runS Try.hX kn rfl ?_ | refine AOps.index Try.hX rfl rfl rfl rfl rfl rfl rfl rfl rfl rfl (i) rfl (vls_at hx) rfl ?_ | refine AOps.callq kn rfl rfl rfl rfl (hq) ?_ | refine AOps.box kn rfl rfl rfl rfl rfl rfl ?_ | refine AOps.alloc Try.hX kn rfl rfl rfl rfl rfl rfl rfl ?_ | refine AOps.store Try.hX kn rfl rfl rfl rfl rfl rfl rfl rfl rfl rfl rfl ?_ | refine AOps.buildSlice Try.hX kn rfl rfl rfl rfl rfl rfl rfl rfl rfl rfl rfl rfl ?_ | refine AOps.append Try.hX kn rfl rfl rfl rfl rfl rfl rfl rfl rfl rfl rfl rfl rfl rfl rfl rfl rfl rfl rfl rfl rfl ?_ ?_ | refine AOps.toStr Try.hX kn rfl rfl rfl rfl rfl rfl rfl rfl rfl rfl rfl (by first | exact rfl | exact byte1 _) rfl ?_ | refine AOps.buildArr Try.hX kn rfl rfl rfl rfl rfl rfl rfl rfl ?_ | refine AOps.indexArr Try.hX kn rfl rfl rfl rfl rfl rfl rfl rfl rfl rfl rfl rfl ?_ | refine AOps.runP1 Try.hX kn rfl rfl ?_ | (refine AOps.splitT rfl rfl rfl asm (fun h => ?_) <;> (fail_if_success (cases h; done)) <;> rw [h]) | (refine AOps.splitF rfl rfl rfl asm (fun h => ?_) <;> (fail_if_success (cases h; done)) <;> rw [h]) | (refine AOps.split rfl rfl rfl (fun h => ?_) (fun h => ?_) <;> (fail_if_success (cases h; done)) <;> rw [h]) | refine AOps.drawn (by kernel_rfl) ?_)
    · have h1 := encNds_length acc
      simp only [List.length_cons, List.length_nil]
      omega
    · have hap : encNds acc ++ [encNd (Nd.mk y1 y2 y3 y4 y5)] = encNds (acc ++ [Nd.mk y1 y2 y3 y4 y5]) := (encNds_append acc [_]).symm
      refine AK.ren [] [(6000, (0, some 6000))] (env' := [(8, .c (.int .i64 ((i + 1 : Nat) : Int))), (7, .c (.int .i64 (encVls l).length)), (6, .c (.sl 7 (encVls l))), (3, .own (.tok 6000 0) 5 (encNds (acc ++ [Nd.mk y1 y2 y3 y4 y5])))])
        (bs' := []) (ts' := [(6000, 0)]) (us' := [6000])
        ⟨⟨_, rfl, .inl (succ64' (i := i) (by omega))⟩, ⟨_, rfl, .inl rfl⟩, ⟨_, rfl, .inl rfl⟩, ⟨_, rfl, ⟨_, rfl, .inr ⟨_, _, rfl, rfl, congrArg (AV.own (.tok 6000 1) 5) hap⟩⟩⟩, trivial⟩ trivial rfl ?_
      exact ih (i + 1, acc ++ [Nd.mk y1 y2 y3 y4 y5]) ⟨h2, by simp [hia], hinv⟩ (by show l.length - (i + 1) < l.length - i; omega)
  · have hc := vls_end he
    have h0 : vNodes l = acc := by rw [hinv, he, List.drop_length, vNodes_nil, List.append_nil]
    rw [h0]
    clear ih hinv
    exact dq

set_option maxHeartbeats 0 in
theorem node_calls : ∀ (v : Vl) (t : Ty), tBad t = false → vHas v t = true → vlSize v ≤ 1048577 → QCalls Try.prog Try.X 119 [encVl v] (encNd (vNode v))
  | .mk k n a s args types code, t, hb, hh, hv => by
    simp only [vlSize] at hv
    have hl1 := vlsSize_len args
    have hin : ∀ x ∈ args, ∀ u, tBad u = false → vHas x u = true → QCalls Try.prog Try.X 119 [encVl x] (encNd (vNode x)) := fun x hx u h1 h2 => node_calls x u h1 h2 (by have := vlsSize_mem hx; omega)
    have hin2 : ∀ k' n' a' s' args' types' code', Vl.mk k' n' a' s' args' types' code' ∈ args → ∀ y ∈ args', ∀ u, tBad u = false → vHas y u = true → QCalls Try.prog Try.X 119 [encVl y] (encNd (vNode y)) := fun k' n' a' s' args' types' code' hx y hy u h1 h2 => node_calls y u h1 h2 (by have h3 := vlsSize_mem hx; have h4 := vlsSize_mem hy; simp only [vlSize] at h3; omega)
    have hbd := vHas_body hh
    have hkids := kids hh hb
    have hks : (k = 9 ∨ k = 10 ∨ k = 11 ∨ k = 12 ∨ k = 13) → QCalls Try.prog Try.X 145 [.sl 7 (encVls args)] (.sl 5 (encNds (vNodes args))) := fun h => nodes_calls args (by omega) fun x hx => by
      obtain ⟨u, u1, u2⟩ := hkids h x hx
      exact hin x hx u u1 u2
    by_cases c : k = 1
    · subst c
      rw [vNode_1]
      have h1 := vprim0_calls 20
      refine QCalls.of Try.func119 rfl (fun args w => Try.call119 args w) (Nat.le_of_ble_eq_true rfl) [(0, .c (encVl (.mk 1 n a s args types code)))] rfl fun β hβ => ?_; have hf := Try.func119
      exact dq
    by_cases c : k = 2
    · subst c
      rw [vNode_2]
      have hn : 0 ≤ n ∧ n ≤ 1 := by simp [vBody] at hbd; omega
      have hw : IntKind.i64.wrap (22 - n) = 22 - n := w64 (by omega) (by omega)
      have h1 := vprim0_calls (22 - n)
      rw [← hw] at h1 ⊢
      refine QCalls.of Try.func119 rfl (fun args w => Try.call119 args w) (Nat.le_of_ble_eq_true rfl) [(0, .c (encVl (.mk 2 n a s args types code)))] rfl fun β hβ => ?_; have hf := Try.func119
      exact dq
    by_cases c : k = 6
    · subst c
      rw [vNode_6]
      refine QCalls.of Try.func119 rfl (fun args w => Try.call119 args w) (Nat.le_of_ble_eq_true rfl) [(0, .c (encVl (.mk 6 n a s args types code)))] rfl fun β hβ => ?_; have hf := Try.func119
      exact dq
    by_cases c : k = 9
    · subst c
      rw [vNode_9]
      have hn : args.length ≤ 1 := by simp [vBody] at hbd; omega
      have hw : IntKind.i64.wrap (27 - (((encVls args).length : Nat) : Int)) = 27 - (args.length : Int) := by rw [encVls_length, w64 (by omega) (by omega)]
      have h1 := vprim_calls (27 - (args.length : Int)) (vNodes args)
      have h2 := hks (by simp)
      rw [← hw] at h1 ⊢
      refine QCalls.of Try.func119 rfl (fun args w => Try.call119 args w) (Nat.le_of_ble_eq_true rfl) [(0, .c (encVl (.mk 9 n a s args types code)))] rfl fun β hβ => ?_; have hf := Try.func119
      exact dq
    by_cases c : k = 10
    · subst c
      rw [vNode_10]
      have h2 := hks (by simp)
      refine QCalls.of Try.func119 rfl (fun args w => Try.call119 args w) (Nat.le_of_ble_eq_true rfl) [(0, .c (encVl (.mk 10 n a s args types code)))] rfl fun β hβ => ?_; have hf := Try.func119
      exact dq
    by_cases c : k = 11
    · subst c
      rw [vNode_11]
      have h1 := vprim_calls 23 (vNodes args)
      have h2 := hks (by simp)
      refine QCalls.of Try.func119 rfl (fun args w => Try.call119 args w) (Nat.le_of_ble_eq_true rfl) [(0, .c (encVl (.mk 11 n a s args types code)))] rfl fun β hβ => ?_; have hf := Try.func119
      exact dq
    by_cases c : k = 12
    · subst c
      rw [vNode_12]
      have hn : 0 ≤ n ∧ n ≤ 1 := by simp [vBody] at hbd; omega
      have hw : IntKind.i64.wrap (24 + n) = 24 + n := w64 (by omega) (by omega)
      have h1 := vprim_calls (24 + n) (vNodes args)
      have h2 := hks (by simp)
      rw [← hw] at h1 ⊢
      refine QCalls.of Try.func119 rfl (fun args w => Try.call119 args w) (Nat.le_of_ble_eq_true rfl) [(0, .c (encVl (.mk 12 n a s args types code)))] rfl fun β hβ => ?_; have hf := Try.func119
      exact dq
    by_cases c : k = 13
    · subst c
      rw [vNode_13]
      have hb11 : ∀ x ∈ args, ∃ u, tBad u = false ∧ vHas x u = true ∧ vK x = 11 := by
        intro x hx
        simp [vBody] at hbd
        have hx2 := (vHasAll_iff _ _).1 hbd.1.2 x hx
        refine ⟨_, ?_, hx2, kids2 hx2⟩
        obtain ⟨har, hbs⟩ := tBad_args hb
        rw [← (vHas_head hh).1] at har
        have : arity 13 = 2 := by decide
        simp only [tBad, Bool.or_eq_false_iff]
        exact ⟨decide_eq_false (by simp; have : arity 11 = 2 := by decide
                                   omega), hbs⟩
      refine QCalls.of Try.func119 rfl (fun args w => Try.call119 args w) (Nat.le_of_ble_eq_true rfl) [(0, .c (encVl (.mk 13 n a s args types code)))] rfl fun β hβ => ?_; have hf := Try.func119
      repeat' (first | refine AK.runP Try.hX Try.mixed 300 rfl ?_ | refine AK.condTe rfl asm ?_ | refine AK.condFe rfl asm ?_ | (refine AK.condS rfl (fun h => ?_) (fun h => ?_) <;> first | (cases h; done) | rw [h] | skip) | refine AK.retQ Try.hX hf rfl rfl ?_ | refine AK.region Try.mixed rfl ?_ | refine AOps.done ?_ | refine AOps.runS Try.hX kn rfl ?_ | refine AOps.box kn rfl rfl rfl rfl rfl rfl ?_ | refine AOps.alloc Try.hX kn rfl rfl rfl rfl rfl rfl rfl ?_ | refine AOps.store Try.hX kn rfl rfl rfl rfl rfl rfl rfl rfl rfl rfl rfl ?_ | refine AOps.buildSlice Try.hX kn rfl rfl rfl rfl rfl rfl rfl rfl rfl rfl rfl rfl ?_ | refine AOps.append Try.hX kn rfl rfl rfl rfl rfl rfl rfl rfl rfl rfl rfl rfl rfl rfl rfl rfl rfl rfl rfl rfl rfl ?_ ?_ | refine AOps.toStr Try.hX kn rfl rfl rfl rfl rfl rfl rfl rfl rfl rfl rfl (by first | exact rfl | exact byte1 _) rfl ?_ | refine AOps.buildArr Try.hX kn rfl rfl rfl rfl rfl rfl rfl rfl ?_ | refine AOps.indexArr Try.hX kn rfl rfl rfl rfl rfl rfl rfl rfl rfl rfl rfl rfl ?_ | refine AOps.runP1 Try.hX kn rfl rfl ?_ | (refine AOps.splitT rfl rfl rfl asm (fun h => ?_) <;> (fail_if_success (cases h; done)) <;> rw [h]) | (refine AOps.splitF rfl rfl rfl asm (fun h => ?_) <;> (fail_if_success (cases h; done)) <;> rw [h]) | (refine AOps.split rfl rfl rfl (fun h => ?_) (fun h => ?_) <;> (fail_if_success (cases h; done)) <;> rw [h]) | refine AOps.drawn (by kernel_rfl) ?_)
      refine AK.ren [(2, 2), (3, 3)] [(6003, (0, none))] (env' := [(59, .c (.int .i64 (0 : Nat))), (58, .c (.int .i64 (encVls args).length)), (57, .c (.sl 7 (encVls args))), (2, .ptr 2 0), (3, .ptr 3 0)])
        (bs' := [(2, [.c (.int .i64 0), .c (.int .i64 0), .c (.int .i64 0), .c (.str []), .own .exact 5 []]), (3, [.c (.int .i64 3), .c (.int .i64 0), .c (.int .i64 0), .c (.str []), .own (.tok 6003 0) 5 []])]) (ts' := [(6003, 0)]) (us' := [2, 3, 6003])
        ⟨⟨_, rfl, .inl rfl⟩, ⟨_, rfl, .inl rfl⟩, ⟨_, rfl, .inl rfl⟩, ⟨_, rfl, ⟨_, rfl, rfl⟩⟩, ⟨_, rfl, ⟨_, rfl, rfl⟩⟩, trivial⟩ ⟨⟨_, _, rfl, rfl, ⟨_, _, rfl, .inl rfl, ⟨_, _, rfl, .inl rfl, ⟨_, _, rfl, .inl rfl, ⟨_, _, rfl, .inl rfl, ⟨_, _, rfl, rfl, rfl⟩⟩⟩⟩⟩⟩, ⟨_, _, rfl, rfl, ⟨_, _, rfl, .inl rfl, ⟨_, _, rfl, .inl rfl, ⟨_, _, rfl, .inl rfl, ⟨_, _, rfl, .inl rfl, ⟨_, _, rfl, ⟨_, rfl, .inl ⟨rfl, _, rfl, .inr rfl⟩⟩, rfl⟩⟩⟩⟩⟩⟩, trivial⟩ rfl ?_
      refine AK.loopE (α := Nat × List Nd) (fun z => z.1 ≤ args.length ∧ z.1 = z.2.length ∧ vElts args = z.2 ++ vElts (args.drop z.1)) (fun z => args.length - z.1)
        (fun z => [(59, .c (.int .i64 z.1)), (58, .c (.int .i64 (encVls args).length)), (57, .c (.sl 7 (encVls args))), (2, .ptr 2 0), (3, .ptr 3 0)])
        (fun z => [(2, [.c (.int .i64 0), .c (.int .i64 0), .c (.int .i64 0), .c (.str []), .own .exact 5 []]), (3, [.c (.int .i64 3), .c (.int .i64 0), .c (.int .i64 0), .c (.str []), .own (.tok 6003 0) 5 (encNds z.2)])]) (fun _ => [(6003, 0)]) [2, 3, 6003] (0, [])
        ⟨by omega, rfl, by simp⟩ ⟨.inl rfl, .inl rfl, .inl rfl, .inl rfl, .inl rfl, trivial⟩ ⟨rfl, rfl, trivial⟩ ⟨rfl, trivial⟩ rfl rfl rfl ?_
      rintro ⟨i, acc⟩ ⟨hi, hia, hinv⟩ ih
      simp only at hi hia hinv
      rcases get_or args i hi with ⟨x, hx, hm⟩ | he
      · have hc := vls_lt hx
        have h2 := lt_of_get hx
        obtain ⟨u, u1, u2, u3⟩ := hb11 x hm
        obtain ⟨x1, x2, x3, x4, x5, x6, x7⟩ := x
        have hx1 : x1 = 11 := u3
        have hxs := vlsSize_mem hm
        simp only [vlSize] at hxs
        have hxl := vlsSize_len x5
        have hq := nodes_calls x5 (by omega) fun y hy => by
          obtain ⟨w, w1, w2⟩ := kids u2 u1 (by simp [hx1]) y hy
          exact hin2 x1 x2 x3 x4 x5 x6 x7 hm y hy w w1 w2
        have hp := vprim_calls 28 (vNodes x5)
        rw [drop_at hx, vElts_cons] at hinv
        rw [show ∀ (a : List Nd) (b : Nd) (c : List Nd), a ++ b :: c = a ++ [b] ++ c from fun a b c => by simp] at hinv
        repeat' (first | refine AK.runP Try.hX Try.mixed 300 rfl ?_ | refine AK.condTe rfl asm ?_ | refine AK.condFe rfl asm ?_ | (refine AK.condS rfl (fun h => ?_) (fun h => ?_) <;> first | (cases h; done) | rw [h] | skip) | refine AK.retQ Try.hX hf rfl rfl ?_ | refine AK.region Try.mixed rfl ?_ | refine AOps.done ?_ | refine AOps.runS Try.hX kn rfl ?_ | refine AOps.index Try.hX rfl rfl rfl rfl rfl rfl rfl rfl rfl rfl (i) rfl (vls_at hx) rfl ?_ | refine AOps.callq kn rfl rfl rfl rfl (hq) ?_ | refine AOps.callq kn rfl rfl rfl rfl (hp) ?_ | refine AOps.box kn rfl rfl rfl rfl rfl rfl ?_ | refine AOps.alloc Try.hX kn rfl rfl rfl rfl rfl rfl rfl ?_ | refine AOps.store Try.hX kn rfl rfl rfl rfl rfl rfl rfl rfl rfl rfl rfl ?_ | refine AOps.buildSlice Try.hX kn rfl rfl rfl rfl rfl rfl rfl rfl rfl rfl rfl rfl ?_ | refine AOps.append Try.hX kn rfl rfl rfl rfl rfl rfl rfl rfl rfl rfl rfl rfl rfl rfl rfl rfl rfl rfl rfl rfl rfl ?_ ?_ | refine AOps.toStr Try.hX kn rfl rfl rfl rfl rfl rfl rfl rfl rfl rfl rfl (by first | exact rfl | exact byte1 _) rfl ?_ | refine AOps.buildArr Try.hX kn rfl rfl rfl rfl rfl rfl rfl rfl ?_ | refine AOps.indexArr Try.hX kn rfl rfl rfl rfl rfl rfl rfl rfl rfl rfl rfl rfl ?_ | refine AOps.runP1 Try.hX kn rfl rfl ?_ | (refine AOps.splitT rfl rfl rfl asm (fun h => ?_) <;> (fail_if_success (cases h; done)) <;> rw [h]) | (refine AOps.splitF rfl rfl rfl asm (fun h => ?_) <;> (fail_if_success (cases h; done)) <;> rw [h]) | (refine AOps.split rfl rfl rfl (fun h => ?_) (fun h => ?_) <;> (fail_if_success (cases h; done)) <;> rw [h]) | refine AOps.drawn (by kernel_rfl) ?_)
        · have h1 := encNds_length acc
          simp only [List.length_cons, List.length_nil]
          omega
        · have hap : encNds acc ++ [encNd (Nd.mk 2 0 28 [] (vNodes x5))] = encNds (acc ++ [Nd.mk 2 0 28 [] (vNodes x5)]) := (encNds_append acc [_]).symm
          refine AK.ren [(2, 2), (3, 3)] [(6003, (0, some 6003))] (env' := [(59, .c (.int .i64 ((i + 1 : Nat) : Int))), (58, .c (.int .i64 (encVls args).length)), (57, .c (.sl 7 (encVls args))), (2, .ptr 2 0), (3, .ptr 3 0)])
            (bs' := [(2, [.c (.int .i64 0), .c (.int .i64 0), .c (.int .i64 0), .c (.str []), .own .exact 5 []]), (3, [.c (.int .i64 3), .c (.int .i64 0), .c (.int .i64 0), .c (.str []), .own (.tok 6003 0) 5 (encNds (acc ++ [Nd.mk 2 0 28 [] (vNodes x5)]))])]) (ts' := [(6003, 0)]) (us' := [2, 3, 6003])
            ⟨⟨_, rfl, .inl (succ64' (i := i) (by omega))⟩, ⟨_, rfl, .inl rfl⟩, ⟨_, rfl, .inl rfl⟩, ⟨_, rfl, ⟨_, rfl, rfl⟩⟩, ⟨_, rfl, ⟨_, rfl, rfl⟩⟩, trivial⟩ ⟨⟨_, _, rfl, rfl, ⟨_, _, rfl, .inl rfl, ⟨_, _, rfl, .inl rfl, ⟨_, _, rfl, .inl rfl, ⟨_, _, rfl, .inl rfl, ⟨_, _, rfl, rfl, rfl⟩⟩⟩⟩⟩⟩, ⟨_, _, rfl, rfl, ⟨_, _, rfl, .inl rfl, ⟨_, _, rfl, .inl rfl, ⟨_, _, rfl, .inl rfl, ⟨_, _, rfl, .inl rfl, ⟨_, _, rfl, ⟨_, rfl, .inr ⟨_, _, rfl, rfl, congrArg (AV.own (.tok 6003 1) 5) hap⟩⟩, rfl⟩⟩⟩⟩⟩⟩, trivial⟩ rfl ?_
          exact ih (i + 1, acc ++ [Nd.mk 2 0 28 [] (vNodes x5)]) ⟨h2, by simp [hia], hinv⟩ (by show args.length - (i + 1) < args.length - i; omega)
      · have hc := vls_end he
        have h0 : vElts args = acc := by rw [hinv, he, List.drop_length, vElts_nil, List.append_nil]
        rw [h0]
        clear ih hinv
        exact dq
    rw [vNode_x k n a (by omega)]
    have e1 : (k == 1) = false := by simp; omega
    have e2 : (k == 2) = false := by simp; omega
    have e3 : (k == 6) = false := by simp; omega
    have e4 : (k == 9) = false := by simp; omega
    have e5 : (k == 10) = false := by simp; omega
    have e6 : (k == 11) = false := by simp; omega
    have e7 : (k == 12) = false := by simp; omega
    have e8 : (k == 13) = false := by simp; omega
    refine QCalls.of Try.func119 rfl (fun args w => Try.call119 args w) (Nat.le_of_ble_eq_true rfl) [(0, .c (encVl (.mk k n a s args types code)))] rfl fun β hβ => ?_; have hf := Try.func119
    exact dq
termination_by v => SizeOf.sizeOf v
decreasing_by
  · have h1 := List.sizeOf_lt_of_mem hx
    simp at h1 ⊢; omega
  · have h1 := List.sizeOf_lt_of_mem hx
    have h2 := List.sizeOf_lt_of_mem hy
    simp at h1 h2 ⊢; omega
end Go.Proofs
