/- The tree that tells a value, as touchstoneref's dataNode makes it. -/
import Derived.Test.YtcinhjfonmjneaaVal10
set_option linter.unusedVariables false
set_option linter.unusedSimpArgs false
namespace Go.Abs
def set28 : Nd → Nd
  | .mk k n _ s args => .mk k n 28 s args
mutual
def rNode : Vl → Nd
  | .mk k n _ s args _ _ =>
    if k = 1 then .mk 2 0 20 [] (rNodes args)
    else if k = 2 then .mk 2 0 (IntKind.i64.wrap (22 - n)) [] (rNodes args)
    else if k = 6 then .mk 1 0 0 s []
    else if k = 9 then .mk 2 0 (IntKind.i64.wrap (27 - args.length)) [] (rNodes args)
    else if k = 10 then .mk 3 0 0 [] (rNodes args)
    else if k = 11 then .mk 2 0 23 [] (rNodes args)
    else if k = 12 then .mk 2 0 (IntKind.i64.wrap (24 + n)) [] (rNodes args)
    else if k = 13 then .mk 3 0 0 [] ((rNodes args).map set28)
    else .mk 0 n 0 [] []
def rNodes : List Vl → List Nd
  | [] => []
  | x :: l => rNode x :: rNodes l
end
theorem rNodes_len : ∀ l : List Vl, (rNodes l).length = l.length
  | [] => rfl
  | x :: l => by simp only [rNodes, List.length_cons, rNodes_len l]
theorem rNodes_append : ∀ a b : List Vl, rNodes (a ++ b) = rNodes a ++ rNodes b
  | [], b => rfl
  | x :: a, b => by simp only [List.cons_append, rNodes, rNodes_append a b]
theorem rNodes_snoc (l : List Vl) (i : Nat) (x : Vl) (h : l[i]? = some x) : rNodes (l.take (i + 1)) = rNodes (l.take i) ++ [rNode x] := by
  rw [List.take_add_one, h, rNodes_append]; rfl
theorem encNds_append : ∀ a b : List Nd, encNds (a ++ b) = encNds a ++ encNds b
  | [], b => rfl
  | x :: a, b => by simp only [List.cons_append, encNds, encNds_append a b]
theorem encNds_cells : ∀ (l : List Nd), ∀ r ∈ encNds l, r.cells.length = 5
  | [], r, h => by simp [encNds] at h
  | .mk k n p s args :: l, r, h => by
    simp only [encNds, List.mem_cons] at h
    rcases h with rfl | h
    · rfl
    · exact encNds_cells l r h
theorem encNds_flat (l : List Nd) : (flatC (encNds l)).length = l.length * 5 := by
  rw [flatC_length (encNds_cells l), encNds_length]
/-- A row's third cell set to 28. -/
theorem set28_row : ∀ (l : List Nd) (i : Nat) (x : Nd), l[i]? = some x → (rowCells (encNds l)).set (0 + i * 5 + 2) (.c (.int .i64 28)) = rowCells (encNds (l.set i (set28 x)))
  | [], i, x, h => by simp at h
  | .mk k n p s args :: l, 0, x, h => by
    simp at h; subst h
    simp [encNds, encNd, rowCells, flatC, CV.cells, set28]
  | .mk k n p s args :: l, i + 1, x, h => by
    have ih := set28_row l i x (by simpa using h)
    simp only [encNds, encNd, rowCells, flatC, CV.cells, List.map_append, List.map_cons, List.map_nil, List.set_cons_succ] at ih ⊢
    rw [show 0 + (i + 1) * 5 + 2 = (0 + i * 5 + 2) + 1 + 1 + 1 + 1 + 1 from by omega]
    simp only [List.cons_append, List.nil_append, List.set_cons_succ, ih]
theorem map28_step (l : List Nd) (i : Nat) (x : Nd) (h : l[i]? = some x) : ((l.take i).map set28 ++ l.drop i).set i (set28 x) = (l.take (i + 1)).map set28 ++ l.drop (i + 1) := by
  have hlt : i < l.length := (List.getElem?_eq_some_iff.1 h).1
  have hd : l.drop i = x :: l.drop (i + 1) := by
    rw [List.drop_eq_getElem_cons hlt, (List.getElem?_eq_some_iff.1 h).2]
  rw [hd, List.take_add_one, h]
  simp [List.set_append, Nat.min_eq_left (Nat.le_of_lt hlt)]
theorem map28_at (l : List Nd) (i : Nat) (x : Nd) (h : l[i]? = some x) : ((l.take i).map set28 ++ l.drop i)[i]? = some x := by
  have hlt : i < l.length := (List.getElem?_eq_some_iff.1 h).1
  rw [List.getElem?_append_right (by simp; omega)]
  simp [Nat.min_eq_left (Nat.le_of_lt hlt), h]
theorem elts_of : ∀ (l : List Vl), (∀ x ∈ l, vK x = 11) → (vNodes l).map set28 = vElts l
  | [], _ => rfl
  | .mk k n a s args types code :: l, h => by
    obtain rfl : k = 11 := h _ (List.mem_cons_self ..)
    have ih := elts_of l (fun x hx => h x (List.mem_cons_of_mem _ hx))
    simp [vNodes, vElts, vNode, set28, ih]
open Go.Proofs in
mutual
theorem rNode_has : ∀ (v : Vl) (t : Ty), tBad t = false → vHas v t = true → rNode v = vNode v
  | .mk k n a s args types code, t, hbd, h => by
    have hb := vHas_body h
    have hkids : (k = 9 ∨ k = 10 ∨ k = 11 ∨ k = 12 ∨ k = 13) → rNodes args = vNodes args := fun hk => rNodes_has args (kids h hbd hk)
    simp only [rNode, vNode]
    by_cases h1 : k = 1
    · subst h1; simp [vBody] at hb; obtain rfl := hb.2; simp [rNodes]
    by_cases h2 : k = 2
    · subst h2; simp [vBody] at hb; obtain ⟨h3, h4, rfl⟩ := hb; simp [rNodes]; exact w64 (by omega) (by omega)
    by_cases h6 : k = 6
    · subst h6; simp
    by_cases h9 : k = 9
    · subst h9; simp [vBody] at hb
      have := hkids (by decide)
      simp [this]; exact w64 (by omega) (by omega)
    by_cases h10 : k = 10
    · subst h10; simp [vBody] at hb
      have := hkids (by decide)
      simp [this]
    by_cases h11 : k = 11
    · subst h11; simp [vBody] at hb
      have := hkids (by decide)
      simp [this]
    by_cases h12 : k = 12
    · subst h12; simp [vBody] at hb
      have := hkids (by decide)
      simp [this]; exact w64 (by omega) (by omega)
    by_cases h13 : k = 13
    · subst h13; simp [vBody] at hb
      have := hkids (by decide)
      simp [this]
      exact elts_of args (fun x hx => kids2 ((vHasAll_iff _ _).1 hb.1.2 x hx))
    simp [h1, h2, h6, h9, h10, h11, h12, h13]
theorem rNodes_has : ∀ (l : List Vl), (∀ x ∈ l, ∃ u, tBad u = false ∧ vHas x u = true) → rNodes l = vNodes l
  | [], _ => rfl
  | x :: l, h => by
    obtain ⟨u, h1, h2⟩ := h x (List.mem_cons_self ..)
    have h3 := rNode_has x u h1 h2
    have h4 := rNodes_has l (fun y hy => h y (List.mem_cons_of_mem _ hy))
    simp only [rNodes, vNodes, h3, h4]
end
end Go.Abs
