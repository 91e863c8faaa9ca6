/- Package value's node and parse as plain functions; what tells a value is read as it, and the other way round. -/
import Derived.Test.YtcinhjfonmjneaaVRef
set_option linter.unusedVariables false
set_option linter.unusedSimpArgs false
namespace Go.Abs

mutual
/-- node -/
def vNode : Vl → Nd
  | .mk k n _ s args _ _ =>
    if k = 1 then .mk 2 0 20 [] []
    else if k = 2 then .mk 2 0 (22 - n) [] []
    else if k = 6 then .mk 1 0 0 s []
    else if k = 9 then .mk 2 0 (27 - args.length) [] (vNodes args)
    else if k = 10 then .mk 3 0 0 [] (vNodes args)
    else if k = 11 then .mk 2 0 23 [] (vNodes args)
    else if k = 12 then .mk 2 0 (24 + n) [] (vNodes args)
    else if k = 13 then .mk 3 0 0 [] (vElts args)
    else .mk 0 n 0 [] []
def vNodes : List Vl → List Nd
  | [] => []
  | x :: l => vNode x :: vNodes l
def vElts : List Vl → List Nd
  | [] => []
  | .mk _ _ _ _ args _ _ :: l => .mk 2 0 28 [] (vNodes args) :: vElts l
end
/-- What row answers, behind what it has. -/
def glue (acc : List Vl) : List Vl × Bool → List Vl × Bool
  | (q, true) => (acc ++ q, true)
  | (_, false) => ([], false)
def val0 (T : Int) : Vl := .mk T 0 0 [] [] [] []
mutual
/-- parse -/
def vPar : Nd → Ty → Vl × Bool
  | .mk kind N P S args, t =>
    if tyT t = 1 then (val0 1, decide (kind = 2 ∧ P = 20 ∧ args.length = 0))
    else if tyT t = 2 then (.mk 2 (IntKind.i64.wrap (22 - P)) 0 [] [] [] [], decide (kind = 2 ∧ (P = 21 ∨ P = 22) ∧ args.length = 0))
    else if tyT t = 3 ∨ tyT t = 4 ∨ tyT t = 5 ∨ tyT t = 7 then (.mk (tyT t) N 0 [] [] [] [], decide (kind = 0))
    else if tyT t = 6 then (.mk 6 0 0 S [] [] [], decide (kind = 1))
    else if tyT t = 9 then
      if kind = 2 ∧ P = 27 then (val0 9, decide (args.length = 0))
      else if kind = 2 ∧ P = 26 then (.mk 9 0 0 [] (vRow args (tyArgs t)).1 [] [], (vRow args (tyArgs t)).2)
      else (val0 9, false)
    else if tyT t = 11 then
      if kind = 2 ∧ P = 23 then (.mk 11 0 0 [] (vRow args (tyArgs t)).1 [] [], (vRow args (tyArgs t)).2)
      else (val0 11, false)
    else if tyT t = 12 then
      if kind = 2 ∧ P = 24 then (.mk 12 0 0 [] (vRow args [tyArg t 0]).1 [] [], (vRow args [tyArg t 0]).2)
      else if kind = 2 ∧ P = 25 then (.mk 12 1 0 [] (vRow args [tyArg t 1]).1 [] [], (vRow args [tyArg t 1]).2)
      else (val0 12, false)
    else if tyT t = 10 then (.mk 10 0 0 [] (vParAll args (tyArg t 0)).1 [] [], decide (kind = 3) && (vParAll args (tyArg t 0)).2)
    else if tyT t = 13 then (.mk 13 0 0 [] (vParMap args (tyArgs t)).1 [] [], decide (kind = 3) && (vParMap args (tyArgs t)).2)
    else (val0 (tyT t), false)
def vRow : List Nd → List Ty → List Vl × Bool
  | [], [] => ([], true)
  | x :: l, t :: r => if (vPar x t).2 = true then glue [(vPar x t).1] (vRow l r) else ([], false)
  | [], _ :: _ => ([], false)
  | _ :: _, [] => ([], false)
def vParAll : List Nd → Ty → List Vl × Bool
  | [], _ => ([], true)
  | x :: l, t => ((vPar x t).1 :: (vParAll l t).1, (vPar x t).2 && (vParAll l t).2)
def vParMap : List Nd → List Ty → List Vl × Bool
  | [], _ => ([], true)
  | .mk kind _ P _ xs :: l, ts => (.mk 11 0 0 [] (vRow xs ts).1 [] [] :: (vParMap l ts).1, ((vRow xs ts).2 && decide (kind = 2 ∧ P = 28)) && (vParMap l ts).2)
end

theorem glue_glue (a b : List Vl) (x : List Vl × Bool) : glue a (glue b x) = glue (a ++ b) x := by
  obtain ⟨q, c⟩ := x
  cases c <;> simp [glue]
theorem glue_nil (x : List Vl × Bool) (h : x.2 = false → x.1 = []) : glue [] x = x := by
  obtain ⟨q, c⟩ := x
  cases c
  · simp at h; subst h; rfl
  · simp [glue]
theorem vRow_false : ∀ (l : List Nd) (r : List Ty), (vRow l r).2 = false → (vRow l r).1 = []
  | [], [], h => by simp [vRow] at h
  | [], _ :: _, _ => by simp [vRow]
  | _ :: _, [], _ => by simp [vRow]
  | x :: l, t :: r, h => by
    simp only [vRow] at h ⊢
    by_cases hx : (vPar x t).2 = true
    · rw [if_pos hx] at h ⊢
      cases hr : vRow l r with
      | mk q c =>
        cases c with
        | false => rfl
        | true => rw [hr] at h; cases h
    · rw [if_neg hx]
theorem vRow_len : ∀ (l : List Nd) (r : List Ty), l.length ≠ r.length → vRow l r = ([], false)
  | [], [], h => by simp at h
  | [], _ :: _, _ => by simp [vRow]
  | _ :: _, [], _ => by simp [vRow]
  | x :: l, t :: r, h => by
    simp only [vRow, vRow_len l r (by simpa using h)]
    split <;> rfl

-- sizes
mutual
theorem vNode_size : ∀ (v : Vl), ndSize (vNode v) ≤ vlSize v
  | .mk k n a s args types code => by
    have h1 := vNodes_size args
    have h2 := vElts_size args
    simp only [vNode, vlSize]
    repeat' split
    all_goals simp only [ndSize, ndsSize, List.length_nil]; omega
theorem vNodes_size : ∀ (l : List Vl), ndsSize (vNodes l) ≤ vlsSize l
  | [] => by simp [vNodes, ndsSize, vlsSize]
  | x :: l => by
    have h1 := vNode_size x
    have h2 := vNodes_size l
    simp only [vNodes, ndsSize, vlsSize]; omega
theorem vElts_size : ∀ (l : List Vl), ndsSize (vElts l) ≤ vlsSize l
  | [] => by simp [vElts, ndsSize, vlsSize]
  | .mk k n a s args types code :: l => by
    have h1 := vNodes_size args
    have h2 := vElts_size l
    simp only [vElts, ndsSize, ndSize, vlsSize, vlSize, List.length_nil]; omega
end
theorem glue_size (a : List Vl) (x : List Vl × Bool) : vlsSize (glue a x).1 ≤ vlsSize a + vlsSize x.1 := by
  obtain ⟨q, c⟩ := x
  cases c
  · simp [glue, vlsSize]
  · simp only [glue]
    have : ∀ a b : List Vl, vlsSize (a ++ b) = vlsSize a + vlsSize b := by
      intro a b
      induction a with
      | nil => simp [vlsSize]
      | cons x a ih => simp only [List.cons_append, vlsSize, ih]; omega
    rw [this]; omega
mutual
theorem vPar_size : ∀ (n : Nd) (t : Ty), vlSize (vPar n t).1 ≤ ndSize n
  | .mk kind N P S args, t => by
    have h1 := vRow_size args (tyArgs t)
    have h2 := vParAll_size args (tyArg t 0)
    have h3 := vParMap_size args (tyArgs t)
    have h4 := vRow_size args [tyArg t 0]
    have h5 := vRow_size args [tyArg t 1]
    simp only [vPar, ndSize, val0]
    repeat' split
    all_goals simp only [vlSize, vlsSize, tysSize, ndsSize, List.length_nil]; omega
theorem vRow_size : ∀ (l : List Nd) (r : List Ty), vlsSize (vRow l r).1 ≤ ndsSize l
  | [], [] => by simp [vRow, vlsSize]
  | [], _ :: _ => by simp [vRow, vlsSize]
  | _ :: _, [] => by simp [vRow, vlsSize]
  | x :: l, t :: r => by
    have h1 := vPar_size x t
    have h2 := vRow_size l r
    simp only [vRow, ndsSize]
    split
    · have := glue_size [(vPar x t).1] (vRow l r)
      simp only [vlsSize] at this; omega
    · simp [vlsSize]
theorem vParAll_size : ∀ (l : List Nd) (t : Ty), vlsSize (vParAll l t).1 ≤ ndsSize l
  | [], _ => by simp [vParAll, vlsSize]
  | x :: l, t => by
    have h1 := vPar_size x t
    have h2 := vParAll_size l t
    simp only [vParAll, ndsSize, vlsSize]; omega
theorem vParMap_size : ∀ (l : List Nd) (ts : List Ty), vlsSize (vParMap l ts).1 ≤ ndsSize l
  | [], _ => by simp [vParMap, vlsSize]
  | .mk kind N P S xs :: l, ts => by
    have h1 := vRow_size xs ts
    have h2 := vParMap_size l ts
    simp only [vParMap, ndsSize, ndSize, vlsSize, vlSize, tysSize, List.length_nil]; omega
end

-- what the plain parts of a value of a type are
theorem vHas_parts {k n a : Int} {s : List UInt8} {args : List Vl} {types : List Ty} {code : List Nd} {t : Ty} (h : vHas (.mk k n a s args types code) t = true) (hk : k ≠ 8 ∧ k ≠ 14 ∧ k ≠ 15) :
    a = 0 ∧ types = [] ∧ code = [] ∧ (k ≠ 6 → s = []) := by
  have h2 := (vHas_head h).2.1
  simp only [vPlain] at h2
  rw [if_neg hk.2.2, if_neg hk.1, if_neg hk.2.1] at h2
  by_cases h6 : k = 6
  · rw [if_pos h6] at h2
    simp only [decide_eq_true_eq] at h2
    exact ⟨h2.2.2.1, List.length_eq_zero_iff.1 h2.1, List.length_eq_zero_iff.1 h2.2.1, fun h => absurd h6 h⟩
  · rw [if_neg h6] at h2
    simp only [decide_eq_true_eq] at h2
    exact ⟨h2.2.2.1, List.length_eq_zero_iff.1 h2.1, List.length_eq_zero_iff.1 h2.2.1, fun _ => h2.2.2.2⟩
theorem vHas_body {k n a : Int} {s : List UInt8} {args : List Vl} {types : List Ty} {code : List Nd} {t : Ty} (h : vHas (.mk k n a s args types code) t = true) : vBody k n a args types t = true := by
  rw [vHas_eq] at h; simp only [Bool.and_eq_true] at h; exact h.2.2.2
theorem packP_no {T : Int} (h : packP T = true) : T ≠ 8 ∧ T ≠ 14 ∧ T ≠ 15 := by
  simp only [packP, Bool.and_eq_true, bne_iff_ne, ne_eq] at h
  refine ⟨?_, ?_, ?_⟩ <;> (rintro rfl; simp at h)
theorem pack_head {t : Ty} (h : tall packP t = true) : packP (tyT t) = true ∧ talls packP (tyArgs t) = true := by
  cases t with | mk T l => simpa [tall, tyT, tyArgs] using h
theorem row_two {l : List Vl} {ts : List Ty} (h1 : l.length = 2) (h2 : ts.length = 2) (h : vHasRow l ts = true) : ∃ x y u w, l = [x, y] ∧ ts = [u, w] ∧ vHas x u = true ∧ vHas y w = true := by
  match l, ts, h1, h2 with
  | [x, y], [u, w], _, _ =>
    simp only [vHasRow, Bool.and_eq_true] at h
    exact ⟨x, y, u, w, rfl, rfl, h.1, h.2.1⟩
theorem arity_rng {k : Int} {m : Nat} (h : arity k = (m : Int)) : 1 ≤ k ∧ k ≤ 15 := by
  unfold arity at h
  split at h <;> omega
theorem row_ok {x : Nd} {l : List Nd} {t : Ty} {r : List Ty} (h : (vRow (x :: l) (t :: r)).2 = true) : (vPar x t).2 = true ∧ (vRow l r).2 = true ∧ (vRow (x :: l) (t :: r)).1 = (vPar x t).1 :: (vRow l r).1 := by
  simp only [vRow] at h ⊢
  by_cases hx : (vPar x t).2 = true
  · rw [if_pos hx] at h ⊢
    rcases hr : vRow l r with ⟨q, c⟩
    rw [hr] at h
    cases c
    · simp [glue] at h
    · exact ⟨hx, rfl, by simp [glue]⟩
  · rw [if_neg hx] at h; simp at h
theorem pair_of {α β : Type} {x : α × β} {a : α} {b : β} (h1 : x.1 = a) (h2 : x.2 = b) : x = (a, b) := by cases x; simp_all

-- what tells a value is read as it
mutual
theorem par_back : ∀ (v : Vl) (t : Ty), tall packP t = true → tBad t = false → vHas v t = true → vPar (vNode v) t = (v, true)
  | .mk k n a s args types code, t, hp, hb, h => by
    have hk := (vHas_head h).1
    have hpn := packP_no (pack_head hp).1
    rw [← hk] at hpn
    obtain ⟨rfl, rfl, rfl, hs⟩ := vHas_parts h hpn
    have hbd := vHas_body h
    obtain ⟨har, hbs⟩ := tBad_args hb
    rw [← hk] at har
    have hps := (pack_head hp).2
    have hrg := arity_rng har
    have ihr := row_back args
    have iha := parAll_back args
    have ihm := parMap_back args
    clear h hp hb
    rcases (by omega : k = 1 ∨ k = 2 ∨ k = 3 ∨ k = 4 ∨ k = 5 ∨ k = 6 ∨ k = 7 ∨ k = 9 ∨ k = 10 ∨ k = 11 ∨ k = 12 ∨ k = 13) with rfl | rfl | rfl | rfl | rfl | rfl | rfl | rfl | rfl | rfl | rfl | rfl
    · obtain rfl := hs (by decide)
      simp [vBody] at hbd
      obtain ⟨rfl, rfl⟩ := hbd
      simp [vNode, vPar, ← hk, val0]
    · obtain rfl := hs (by decide)
      simp [vBody] at hbd
      obtain ⟨h1, h2, rfl⟩ := hbd
      rcases (by omega : n = 0 ∨ n = 1) with rfl | rfl <;> simp [vNode, vPar, ← hk, val0] <;> decide
    · obtain rfl := hs (by decide)
      simp [vBody] at hbd
      obtain ⟨h1, h2, rfl⟩ := hbd
      simp [vNode, vPar, ← hk, val0]
    · obtain rfl := hs (by decide)
      simp [vBody] at hbd
      obtain ⟨h1, h2, rfl⟩ := hbd
      simp [vNode, vPar, ← hk, val0]
    · obtain rfl := hs (by decide)
      simp [vBody] at hbd
      obtain ⟨h1, h2, rfl⟩ := hbd
      simp [vNode, vPar, ← hk, val0]
    · simp [vBody] at hbd
      obtain ⟨rfl, rfl⟩ := hbd
      simp [vNode, vPar, ← hk, val0]
    · obtain rfl := hs (by decide)
      simp [vBody] at hbd
      obtain ⟨h1, h2, rfl⟩ := hbd
      simp [vNode, vPar, ← hk, val0]
    · obtain rfl := hs (by decide)
      simp [vBody] at hbd
      obtain ⟨⟨rfl, h2⟩, h3⟩ := hbd
      cases args with
      | nil => simp [vNode, vPar, ← hk, val0, vNodes]
      | cons x l =>
        have hl : l = [] := List.length_eq_zero_iff.1 (by simp only [List.length_cons] at h2; omega)
        subst hl
        have ha9 : arity 9 = 1 := by decide
        have hts : tyArgs t = [tyArg t 0] := by
          match hh : tyArgs t, (show (tyArgs t).length = 1 by omega) with
          | [u], _ => simp [tyArg, hh]
        have hr := ihr (tyArgs t) hps hbs (by rw [hts]; rfl) (by rw [hts]; simp only [vHasAll, Bool.and_eq_true] at h3; simp [vHasRow, h3.1])
        simp [vNode, vPar, ← hk, hr]
    · obtain rfl := hs (by decide)
      simp [vBody] at hbd
      obtain ⟨⟨rfl, h2⟩, h3⟩ := hbd
      have ha : arity 10 = 1 := by decide
      have hm : tyArg t 0 ∈ tyArgs t := tyArg_mem (by omega)
      have hr := iha (tyArg t 0) (talls_mem hps hm) (tBads_mem hbs hm) h3
      simp [vNode, vPar, ← hk, hr]
    · obtain rfl := hs (by decide)
      simp [vBody] at hbd
      obtain ⟨⟨rfl, h2⟩, h3⟩ := hbd
      have ha : arity 11 = 2 := by decide
      have hr := ihr (tyArgs t) hps hbs (by omega) h3
      simp [vNode, vPar, ← hk, hr]
    · obtain rfl := hs (by decide)
      simp [vBody] at hbd
      obtain ⟨⟨h1, h2, h3⟩, h4⟩ := hbd
      have ha : arity 12 = 2 := by decide
      have hm : tyArg t n.toNat ∈ tyArgs t := tyArg_mem (by omega)
      have hrow : vHasRow args [tyArg t n.toNat] = true := by
        match args, h3 with
        | [x], _ => simp only [vHasAll, Bool.and_eq_true] at h4; simp [vHasRow, h4.1]
      have hr := ihr [tyArg t n.toNat] (by simp only [talls, Bool.and_true]; exact talls_mem hps hm) (by simp only [tBads, Bool.or_false]; exact tBads_mem hbs hm) (by simp [h3]) hrow
      rcases (by omega : n = 0 ∨ n = 1) with rfl | rfl
      · simp at hr; simp [vNode, vPar, ← hk, hr]
      · simp at hr; simp [vNode, vPar, ← hk, hr]
    · obtain rfl := hs (by decide)
      simp [vBody] at hbd
      obtain ⟨⟨⟨rfl, h2⟩, h3⟩, h4⟩ := hbd
      have ha : arity 13 = 2 := by decide
      have hr := ihm (tyArgs t) hps hbs (by omega) h3
      simp [vNode, vPar, ← hk, hr]
theorem row_back : ∀ (l : List Vl) (ts : List Ty), talls packP ts = true → tBads ts = false → l.length = ts.length → vHasRow l ts = true → vRow (vNodes l) ts = (l, true)
  | [], [], _, _, _, _ => by simp [vNodes, vRow]
  | [], _ :: _, _, _, h, _ => by simp at h
  | _ :: _, [], _, _, h, _ => by simp at h
  | x :: l, t :: ts, hp, hb, hl, h => by
    simp only [talls, Bool.and_eq_true] at hp
    simp only [tBads, Bool.or_eq_false_iff] at hb
    simp only [vHasRow, Bool.and_eq_true] at h
    have h1 := par_back x t hp.1 hb.1 h.1
    have h2 := row_back l ts hp.2 hb.2 (by simpa using hl) h.2
    simp [vNodes, vRow, h1, h2, glue]
theorem parAll_back : ∀ (l : List Vl) (t : Ty), tall packP t = true → tBad t = false → vHasAll l t = true → vParAll (vNodes l) t = (l, true)
  | [], _, _, _, _ => by simp [vNodes, vParAll]
  | x :: l, t, hp, hb, h => by
    simp only [vHasAll, Bool.and_eq_true] at h
    have h1 := par_back x t hp hb h.1
    have h2 := parAll_back l t hp hb h.2
    simp [vNodes, vParAll, h1, h2]
theorem parMap_back : ∀ (l : List Vl) (ts : List Ty), talls packP ts = true → tBads ts = false → ts.length = 2 → vHasAll l (.mk 11 ts) = true → vParMap (vElts l) ts = (l, true)
  | [], _, _, _, _, _ => by simp [vElts, vParMap]
  | .mk k n a s args types code :: l, ts, hp, hb, h2l, h => by
    simp only [vHasAll, Bool.and_eq_true] at h
    have hk := (vHas_head h.1).1
    simp only [tyT] at hk
    subst hk
    obtain ⟨rfl, rfl, rfl, hs⟩ := vHas_parts h.1 (by decide)
    obtain rfl := hs (by decide)
    have hbd := vHas_body h.1
    simp [vBody, tyArgs] at hbd
    obtain ⟨⟨rfl, h3⟩, h4⟩ := hbd
    have h1 := row_back args ts hp hb (by omega) h4
    have h2 := parMap_back l ts hp hb h2l h.2
    simp [vElts, vParMap, h1, h2]
end
end Go.Abs
namespace Go.Abs
theorem wrongs_two {x : Nd} {l : List Nd} {d : Int} (h : wrongs (x :: l) d = 0) : wrong x d = 0 ∧ wrongs l d = 0 := by
  simp only [wrongs] at h
  by_cases hx : wrong x d = 0
  · rw [if_pos hx] at h; exact ⟨hx, h⟩
  · rw [if_neg hx] at h; exact absurd h hx
-- what is read as a value of a type is just what tells it
mutual
theorem par_only : ∀ (n : Nd) (t : Ty) (d : Int), tall packP t = true → tBad t = false → (vPar n t).2 = true → vHas (vPar n t).1 t = true → wrong n d = 0 → vNode (vPar n t).1 = n
  | .mk kind N P S args, t, d, hp, hb, hok, h, hw => by
    obtain ⟨hw1, hws⟩ := wrong_eq hw
    obtain ⟨_, hkd, hN, hP, hS, hA, _, _, _⟩ := wrong1_eq hw1
    have ihr := row_only args
    have iha := parAll_only args
    have ihm := parMap_only args
    obtain ⟨har, hbs⟩ := tBad_args hb
    have hps := (pack_head hp).2
    have hrg := arity_rng har
    have hpn := packP_no (pack_head hp).1
    clear hw hw1 hp hb
    rcases (by omega : tyT t = 1 ∨ tyT t = 2 ∨ tyT t = 3 ∨ tyT t = 4 ∨ tyT t = 5 ∨ tyT t = 6 ∨ tyT t = 7 ∨ tyT t = 9 ∨ tyT t = 10 ∨ tyT t = 11 ∨ tyT t = 12 ∨ tyT t = 13) with hT | hT | hT | hT | hT | hT | hT | hT | hT | hT | hT | hT
    all_goals rw [hT] at har
    · simp [vPar, hT] at hok
      obtain ⟨rfl, rfl, rfl⟩ := hok
      obtain rfl := hN (by decide)
      obtain rfl := hS (by decide)
      simp [vPar, hT, vNode, val0]
    · simp [vPar, hT] at hok
      obtain ⟨rfl, hP2, rfl⟩ := hok
      obtain rfl := hN (by decide)
      obtain rfl := hS (by decide)
      rcases hP2 with rfl | rfl <;> simp [vPar, hT, vNode, val0] <;> decide
    · simp [vPar, hT] at hok
      subst hok
      obtain rfl := hP (by decide)
      obtain rfl := hS (by decide)
      obtain rfl := List.length_eq_zero_iff.1 (hA (by decide))
      simp [vPar, hT, vNode, val0]
    · simp [vPar, hT] at hok
      subst hok
      obtain rfl := hP (by decide)
      obtain rfl := hS (by decide)
      obtain rfl := List.length_eq_zero_iff.1 (hA (by decide))
      simp [vPar, hT, vNode, val0]
    · simp [vPar, hT] at hok
      subst hok
      obtain rfl := hP (by decide)
      obtain rfl := hS (by decide)
      obtain rfl := List.length_eq_zero_iff.1 (hA (by decide))
      simp [vPar, hT, vNode, val0]
    · simp [vPar, hT] at hok
      subst hok
      obtain rfl := hN (by decide)
      obtain rfl := hP (by decide)
      obtain rfl := List.length_eq_zero_iff.1 (hA (by decide))
      simp [vPar, hT, vNode, val0]
    · simp [vPar, hT] at hok
      subst hok
      obtain rfl := hP (by decide)
      obtain rfl := hS (by decide)
      obtain rfl := List.length_eq_zero_iff.1 (hA (by decide))
      simp [vPar, hT, vNode, val0]
    · by_cases c1 : kind = 2 ∧ P = 27
      · obtain ⟨rfl, rfl⟩ := c1
        simp [vPar, hT] at hok
        subst hok
        obtain rfl := hN (by decide)
        obtain rfl := hS (by decide)
        simp [vPar, hT, vNode, val0, vNodes]
      · by_cases c2 : kind = 2 ∧ P = 26
        · obtain ⟨rfl, rfl⟩ := c2
          obtain rfl := hN (by decide)
          obtain rfl := hS (by decide)
          simp [vPar, hT] at hok h ⊢
          have hbd := vHas_body h
          simp [vBody] at hbd
          have ha9 : arity 9 = 1 := by decide
          have hts : tyArgs t = [tyArg t 0] := by
            match hh : tyArgs t, (show (tyArgs t).length = 1 by omega) with
            | [u], _ => simp [tyArg, hh]
          have hrow : vHasRow (vRow args (tyArgs t)).1 (tyArgs t) = true := by
            generalize vRow args (tyArgs t) = q at hbd
            rw [hts]
            match hq : q.1, hbd with
            | [], _ => simp [vHasRow]
            | [x], hbd => simp [vHasAll, hq] at hbd; simp [vHasRow, hbd]
            | x :: y :: l, hbd => simp [hq] at hbd
          obtain ⟨e1, e2, e3⟩ := ihr (tyArgs t) (d + 1) hps hbs hok hrow hws
          simp only [vNode]
          simp only [e1, e2]
          simp; omega
        · simp [vPar, hT, c1, c2] at hok
    · simp [vPar, hT] at hok
      obtain ⟨rfl, hok⟩ := hok
      obtain rfl := hN (by decide)
      obtain rfl := hP (by decide)
      obtain rfl := hS (by decide)
      simp [vPar, hT] at h ⊢
      have hbd := vHas_body h
      simp [vBody] at hbd
      have ha : arity 10 = 1 := by decide
      have hm : tyArg t 0 ∈ tyArgs t := tyArg_mem (by omega)
      have e1 := iha (tyArg t 0) (d + 1) (talls_mem hps hm) (tBads_mem hbs hm) hok hbd.2 hws
      simp [vNode, e1]
    · by_cases c1 : kind = 2 ∧ P = 23
      · obtain ⟨rfl, rfl⟩ := c1
        obtain rfl := hN (by decide)
        obtain rfl := hS (by decide)
        simp [vPar, hT] at hok h ⊢
        have hbd := vHas_body h
        simp [vBody] at hbd
        obtain ⟨e1, e2, e3⟩ := ihr (tyArgs t) (d + 1) hps hbs hok hbd.2 hws
        simp [vNode, e1]
      · simp [vPar, hT, c1] at hok
    · by_cases c1 : kind = 2 ∧ P = 24
      · obtain ⟨rfl, rfl⟩ := c1
        obtain rfl := hN (by decide)
        obtain rfl := hS (by decide)
        simp [vPar, hT] at hok h ⊢
        have hbd := vHas_body h
        simp [vBody] at hbd
        have ha : arity 12 = 2 := by decide
        have hm : tyArg t 0 ∈ tyArgs t := tyArg_mem (by omega)
        have hrow : vHasRow (vRow args [tyArg t 0]).1 [tyArg t 0] = true := by
          generalize vRow args [tyArg t 0] = q at hbd
          match hq : q.1, hbd with
          | [], _ => simp [vHasRow]
          | [x], hbd => simp [vHasAll, hq] at hbd; simp [vHasRow, hbd]
          | x :: y :: l, hbd => simp [hq] at hbd
        obtain ⟨e1, e2, e3⟩ := ihr [tyArg t 0] (d + 1) (by simp only [talls, Bool.and_true]; exact talls_mem hps hm) (by simp only [tBads, Bool.or_false]; exact tBads_mem hbs hm) hok hrow hws
        simp [vNode, e1]
      · by_cases c2 : kind = 2 ∧ P = 25
        · obtain ⟨rfl, rfl⟩ := c2
          obtain rfl := hN (by decide)
          obtain rfl := hS (by decide)
          simp [vPar, hT] at hok h ⊢
          have hbd := vHas_body h
          simp [vBody] at hbd
          have ha : arity 12 = 2 := by decide
          have hm : tyArg t 1 ∈ tyArgs t := tyArg_mem (by omega)
          have hrow : vHasRow (vRow args [tyArg t 1]).1 [tyArg t 1] = true := by
            generalize vRow args [tyArg t 1] = q at hbd
            match hq : q.1, hbd with
            | [], _ => simp [vHasRow]
            | [x], hbd => simp [vHasAll, hq] at hbd; simp [vHasRow, hbd]
            | x :: y :: l, hbd => simp [hq] at hbd
          obtain ⟨e1, e2, e3⟩ := ihr [tyArg t 1] (d + 1) (by simp only [talls, Bool.and_true]; exact talls_mem hps hm) (by simp only [tBads, Bool.or_false]; exact tBads_mem hbs hm) hok hrow hws
          simp [vNode, e1]
        · simp [vPar, hT, c1, c2] at hok
    · simp [vPar, hT] at hok
      obtain ⟨rfl, hok⟩ := hok
      obtain rfl := hN (by decide)
      obtain rfl := hP (by decide)
      obtain rfl := hS (by decide)
      simp [vPar, hT] at h ⊢
      have hbd := vHas_body h
      simp [vBody] at hbd
      have ha : arity 13 = 2 := by decide
      have e1 := ihm (tyArgs t) (d + 1) hps hbs (by omega) hok hbd.1.2 hws
      simp [vNode, e1]
theorem row_only : ∀ (l : List Nd) (ts : List Ty) (d : Int), talls packP ts = true → tBads ts = false → (vRow l ts).2 = true → vHasRow (vRow l ts).1 ts = true → wrongs l d = 0 → vNodes (vRow l ts).1 = l ∧ (vRow l ts).1.length = l.length ∧ l.length = ts.length
  | [], [], _, _, _, _, _, _ => by simp [vRow, vNodes]
  | [], _ :: _, _, _, _, h, _, _ => by simp [vRow] at h
  | _ :: _, [], _, _, _, h, _, _ => by simp [vRow] at h
  | x :: l, t :: ts, d, hp, hb, hok, h, hw => by
    simp only [talls, Bool.and_eq_true] at hp
    simp only [tBads, Bool.or_eq_false_iff] at hb
    obtain ⟨o1, o2, o3⟩ := row_ok hok
    obtain ⟨w1, w2⟩ := wrongs_two hw
    rw [o3] at h ⊢
    simp only [vHasRow, Bool.and_eq_true] at h
    have h1 := par_only x t d hp.1 hb.1 o1 h.1 w1
    have h2 := row_only l ts d hp.2 hb.2 o2 h.2 w2
    simp [vNodes, h1, h2]
theorem parAll_only : ∀ (l : List Nd) (t : Ty) (d : Int), tall packP t = true → tBad t = false → (vParAll l t).2 = true → vHasAll (vParAll l t).1 t = true → wrongs l d = 0 → vNodes (vParAll l t).1 = l
  | [], _, _, _, _, _, _, _ => by simp [vParAll, vNodes]
  | x :: l, t, d, hp, hb, hok, h, hw => by
    obtain ⟨w1, w2⟩ := wrongs_two hw
    simp only [vParAll, Bool.and_eq_true] at hok
    simp only [vParAll, vHasAll, Bool.and_eq_true] at h
    have h1 := par_only x t d hp hb hok.1 h.1 w1
    have h2 := parAll_only l t d hp hb hok.2 h.2 w2
    simp [vParAll, vNodes, h1, h2]
theorem parMap_only : ∀ (l : List Nd) (ts : List Ty) (d : Int), talls packP ts = true → tBads ts = false → ts.length = 2 → (vParMap l ts).2 = true → vHasAll (vParMap l ts).1 (.mk 11 ts) = true → wrongs l d = 0 → vElts (vParMap l ts).1 = l
  | [], _, _, _, _, _, _, _, _ => by simp [vParMap, vElts]
  | .mk kind N P S xs :: l, ts, d, hp, hb, h2l, hok, h, hw => by
    obtain ⟨w1, w2⟩ := wrongs_two hw
    obtain ⟨hw1, hws⟩ := wrong_eq w1
    obtain ⟨_, hkd, hN, hP, hS, hA, _, _, _⟩ := wrong1_eq hw1
    simp only [vParMap, Bool.and_eq_true, decide_eq_true_eq] at hok
    obtain ⟨⟨ho1, rfl, rfl⟩, ho2⟩ := hok
    obtain rfl := hN (by decide)
    obtain rfl := hS (by decide)
    simp only [vParMap, vHasAll, Bool.and_eq_true] at h
    have hbd := vHas_body h.1
    simp [vBody, tyArgs] at hbd
    have h1 := row_only xs ts (d + 1) hp hb ho1 hbd.2 hws
    have h2 := parMap_only l ts d hp hb h2l ho2 h.2 w2
    simp [vParMap, vElts, h1, h2]
end

/-- Parse -/
def tPar (t : Ty) (n : Nd) : Vl × Int := if tGood t = true ∧ tGoodN n = 0 ∧ (vPar n t).2 = true ∧ vHas (vPar n t).1 t = true then ((vPar n t).1, 0) else (vl0, 1)
/-- Node -/
def tVNode (t : Ty) (v : Vl) : Nd × Int := if tHas t v = true ∧ tPack t = true then (if tGoodN (vNode v) = 0 then (vNode v, 0) else (nd0, tGoodN (vNode v))) else (nd0, 5)
/-- Told -/
def tTold (v : Vl) : List UInt8 × Int := if tGoodN (vNode v) = 0 then (if 200 ≤ (bytesN (vNode v)).length then ([], 4) else (5 :: bytesN (vNode v), 0)) else ([], tGoodN (vNode v))
/-- Pack -/
def tVPack (t : Ty) (v : Vl) : List UInt8 × Int := if tHas t v = true ∧ tPack t = true then tTold v else ([], 5)
/-- Unpack -/
def tUnpack (t : Ty) (s : List UInt8) : Vl × Int := match s with
  | [] => (vl0, 1)
  | c :: r => if c = 5 ∧ (c :: r).length ≤ 200 ∧ tPack t = true ∧ (tDecode r).2 = 0 then tPar t (tDecode r).1 else (vl0, 1)
theorem tPar_node {t : Ty} {v : Vl} (h1 : tHas t v = true) (h2 : tPack t = true) (h3 : tGoodN (vNode v) = 0) : tPar t (vNode v) = (v, 0) := by
  have hg : tGood t = true ∧ vHas v t = true := by unfold tHas at h1; simpa using h1
  have hb : tBad t = false := by
    cases hb : tBad t with
    | false => rfl
    | true =>
      have h1 := bad_good t 24 300 hb
      rw [rGood_top, hg.1] at h1; cases h1
  have hp : vPar (vNode v) t = (v, true) := par_back v t h2 hb hg.2
  unfold tPar
  rw [hp, if_pos ⟨hg.1, h3, rfl, hg.2⟩]
theorem tPar_only {t : Ty} {n : Nd} (h : (tPar t n).2 = 0) : tHas t (tPar t n).1 = true ∧ tGoodN n = 0 ∧ (tPack t = true → vNode (tPar t n).1 = n) := by
  unfold tPar at h ⊢
  split at h
  · rename_i hc
    rw [if_pos hc]
    have hb : tBad t = false := by
      cases hb : tBad t with
      | false => rfl
      | true =>
        have h1 := bad_good t 24 300 hb
        rw [rGood_top, hc.1] at h1; cases h1
    refine ⟨by unfold tHas; simp only [hc.1, hc.2.2.2]; rfl, hc.2.1, fun hp => ?_⟩
    exact par_only n t 1 hp hb hc.2.2.1 hc.2.2.2 (tGoodN_zero.1 hc.2.1).1
  · cases h
theorem tPar_bad {t : Ty} {n : Nd} (h : (tPar t n).2 ≠ 0) : tPar t n = (vl0, 1) := by
  unfold tPar at h ⊢
  split at h
  · exact absurd rfl h
  · rename_i hc; rw [if_neg hc]
theorem tPar_size (t : Ty) (n : Nd) : vlSize (tPar t n).1 ≤ ndSize n := by
  unfold tPar
  split
  · exact vPar_size n t
  · exact ndSize_pos n
end Go.Abs
