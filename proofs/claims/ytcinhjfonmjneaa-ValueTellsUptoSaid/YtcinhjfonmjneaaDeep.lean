/- Nodes with depths, in a row, and what the first of them that is wrong is. -/
import Derived.Test.YtcinhjfonmjneaaTPure
import Derived.Test.YtcinhjfonmjneaaLibC
set_option linter.unusedVariables false
set_option linter.unusedSimpArgs false
namespace Go.Abs
def encDeep : Nd × Int → CV
  | (.mk k n p s args, d) => .agg [.int .i64 k, .int .i64 n, .int .i64 p, .str s, .sl 5 (encNds args), .int .i64 d]
def encDeeps (l : List (Nd × Int)) : List CV := l.map encDeep
theorem deep_cells (x : Nd × Int) : (encDeep x).cells.length = 6 := by
  obtain ⟨⟨k, n, p, s, args⟩, d⟩ := x; rfl
theorem deeps_cells (l : List (Nd × Int)) : ∀ r ∈ encDeeps l, r.cells.length = 6 := by
  intro r hr
  obtain ⟨x, _, rfl⟩ := List.mem_map.1 hr
  exact deep_cells x
theorem deeps_flat (l : List (Nd × Int)) : (flatC (encDeeps l)).length = l.length * 6 := by
  rw [flatC_length (deeps_cells l)]; simp [encDeeps]
theorem deeps_len (l : List (Nd × Int)) : (encDeeps l).length = l.length := by simp [encDeeps]
theorem deeps_shape : ∀ (l : List (Nd × Int)), rowsShape 6 (encDeeps l) = true
  | [] => rfl
  | (.mk k n p s args, d) :: l => by
    have ih := deeps_shape l
    simp only [encDeeps, List.map_cons, rowsShape] at ih ⊢
    rw [show rowShape 6 (encDeep (.mk k n p s args, d)) = true from rfl]
    exact ih
theorem deeps_append (a b : List (Nd × Int)) : encDeeps (a ++ b) = encDeeps a ++ encDeeps b := by simp [encDeeps]
theorem dropN_of {α : Type} : ∀ (k : Nat) (l : List α), k ≤ l.length → dropN k l = some (l.drop k)
  | 0, l, _ => by simp [dropN]
  | k + 1, [], h => by simp at h
  | k + 1, x :: l, h => by
    simp only [dropN, List.drop_succ_cons]
    exact dropN_of k l (by simpa using h)
theorem rowCells_append (a b : List CV) : rowCells (a ++ b) = rowCells a ++ rowCells b := by simp [rowCells, flatC_append]
theorem rowCells_len (l : List (Nd × Int)) : (rowCells (encDeeps l)).length = l.length * 6 := by
  simp only [rowCells, List.length_map]; exact deeps_flat l
theorem deeps_drop (k : Nat) (l : List (Nd × Int)) (h : k ≤ l.length) : dropN (0 + k * 6) (rowCells (encDeeps l)) = some (rowCells (encDeeps (l.drop k)) ++ []) := by
  have e : rowCells (encDeeps l) = rowCells (encDeeps (l.take k)) ++ rowCells (encDeeps (l.drop k)) := by
    rw [← rowCells_append, ← deeps_append, List.take_append_drop]
  have hl : (rowCells (encDeeps (l.take k))).length = 0 + k * 6 := by rw [rowCells_len, List.length_take]; rw [Nat.min_eq_left h, Nat.zero_add]
  rw [dropN_of _ _ (by rw [rowCells_len]; omega), e, List.append_nil, ← hl, List.drop_left]
theorem deeps_at {l : List (Nd × Int)} {i : Nat} {k n p : Int} {s : List UInt8} {args : List Nd} {d : Int} (h : l[i]? = some (.mk k n p s args, d)) :
    dropN (0 + i * 6) (rowCells (encDeeps l)) = some (AV.c (.int .i64 k) :: .c (.int .i64 n) :: .c (.int .i64 p) :: .c (.str s) :: .c (.sl 5 (encNds args)) :: .c (.int .i64 d) :: (rowCells (encDeeps (l.drop (i + 1))) ++ [])) := by
  have hl : i < l.length := (List.getElem?_eq_some_iff.1 h).1
  rw [deeps_drop i l (by omega)]
  have : l.drop i = (.mk k n p s args, d) :: l.drop (i + 1) := by
    rw [List.drop_eq_getElem_cons hl]
    rw [List.getElem?_eq_getElem hl] at h
    rw [Option.some.inj h]
  rw [this]; rfl

/-- The first of them that is wrong. -/
def wl : List (Nd × Int) → Int
  | [] => 0
  | (x, d) :: r => if wrong x d = 0 then wl r else wrong x d
def cnt : List (Nd × Int) → Nat
  | [] => 0
  | (x, _) :: r => many x + cnt r
def kidsAt (args : List Nd) (d : Int) : List (Nd × Int) := args.map fun x => (x, d)
theorem wl_kids (d : Int) (r : List (Nd × Int)) : ∀ (args : List Nd), wl (kidsAt args d ++ r) = if wrongs args d = 0 then wl r else wrongs args d
  | [] => by simp [kidsAt, wrongs]
  | x :: l => by
    have ih := wl_kids d r l
    have hl : wl (kidsAt (x :: l) d ++ r) = if wrong x d = 0 then wl (kidsAt l d ++ r) else wrong x d := rfl
    rw [hl]
    by_cases h : wrong x d = 0
    · have hw : wrongs (x :: l) d = wrongs l d := by simp only [wrongs, if_pos h]
      rw [hw, if_pos h]; exact ih
    · have hw : wrongs (x :: l) d = wrong x d := by simp only [wrongs, if_neg h]
      rw [hw, if_neg h, if_neg h]
theorem cnt_kids (d : Int) (r : List (Nd × Int)) : ∀ (args : List Nd), cnt (kidsAt args d ++ r) = manys args + cnt r
  | [] => by simp [kidsAt, manys]
  | x :: l => by
    have ih := cnt_kids d r l
    simp only [kidsAt, List.map_cons, List.cons_append, cnt, manys] at ih ⊢
    omega
theorem wl_step {kind n p : Int} {s : List UInt8} {args : List Nd} {d : Int} {r : List (Nd × Int)} (h : wrong1 kind n p s args.length d = 0) : wl ((.mk kind n p s args, d) :: r) = wl (kidsAt args (d + 1) ++ r) := by
  rw [wl_kids]; simp only [wl, wrong, h, if_true]
theorem wl_bad {kind n p : Int} {s : List UInt8} {args : List Nd} {d e : Int} {r : List (Nd × Int)} (h : wrong1 kind n p s args.length d = e) (he : e ≠ 0) : wl ((.mk kind n p s args, d) :: r) = e := by
  simp only [wl, wrong, h, if_neg he]
theorem cnt_step (kind n p : Int) (s : List UInt8) (args : List Nd) (d : Int) (r : List (Nd × Int)) : cnt ((.mk kind n p s args, d) :: r) = 1 + cnt (kidsAt args (d + 1) ++ r) := by
  rw [cnt_kids]; simp only [cnt, many]; omega
theorem cnt_len : ∀ l : List (Nd × Int), l.length ≤ cnt l
  | [] => Nat.le_refl _
  | (x, d) :: l => by
    have := cnt_len l
    have h1 : 1 ≤ many x := by cases x; simp [many]
    simp only [List.length_cons, cnt]; omega
mutual
theorem many_size : ∀ t : Nd, many t ≤ ndSize t
  | .mk _ _ _ s args => by have := manys_size args; simp only [many, ndSize]; omega
theorem manys_size : ∀ l : List Nd, manys l ≤ ndsSize l
  | [] => Nat.le_refl _
  | t :: l => by have := many_size t; have := manys_size l; simp only [manys, ndsSize]; omega
end
theorem tGoodN_eq (n : Nd) : tGoodN n = if wrong n 1 = 0 then (if 300 < many n then 4 else 0) else wrong n 1 := rfl
theorem convL_c (ρ : Ren) (ts : List (Nat × Nat)) : ∀ (cs : List CV), ConvL ρ ts (cs.map AV.c) (cs.map AV.c)
  | [] => by simp [ConvL]
  | c :: cs => by simp only [List.map_cons, ConvL]; exact ⟨_, _, rfl, by rw [Conv]; exact .inl rfl, convL_c ρ ts cs⟩
end Go.Abs
