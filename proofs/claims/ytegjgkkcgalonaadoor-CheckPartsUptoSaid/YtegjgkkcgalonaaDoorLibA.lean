/- A layer of abstract values over the model, part A: The abstract values, what they say of memory, and contracts of calls whose arguments and results are closed values: definitions and how they last while memory grows. Abstract values with boxes and spare room, the state, and what it says of a world; how a step may change it. The operations that only look: an evaluator of abstract values, and that it says what the model does. The evaluator of operations that only look, and that it says what the model does: moves, loads, addresses of fields. The evaluator of operations that only look: arithmetic, tests, strings. The evaluator of operations that only look: all of it. The operations that only look do in the model what the evaluator says. The operations that only look do in the model what the evaluator says: slices, structs, and all of them together. The operations that only look do in the model what the evaluator says: structs. The operations that only look do in the model what the evaluator says: all of them. The operations that only look do in the model what the evaluator says: the theorem. The operations that only look do in the model what the evaluator says: put together. One operation as a step of abstract states, and a row of them: in the text's order, and in whatever order the edges allow. Rows of operations in the model: in the text's order, and in whatever order the edges allow. -/
import Derived.Calls
import Derived.Laws.Entries
import Derived.Laws.Cells
import Derived.Laws.Strings
import Derived.Orders
set_option linter.unusedSimpArgs false
set_option linter.unusedVariables false
namespace Go.Abs

/-- Closed values: they say what they are by themselves, together with memory that nobody writes. -/
inductive CV where
  | int (k : IntKind) (n : Int)
  | bool (b : Bool)
  | str (s : List UInt8)
  | nilp
  | undef
  | sl (s : Nat) (rows : List CV)
  | agg (cs : List CV)
  | ip (cs : List CV)
  | clo (f : FuncId) (caps : List CV)
  | tup (cs : List CV)
  | any
  | abool
  deriving Inhabited

def CV.cells : CV → List CV
  | .agg cs => cs
  | v => [v]

def CV.one : CV → Bool
  | .agg _ | .tup _ | .undef => false
  | _ => true

/-- Memory that nobody writes: what stands at block and offset. -/
abbrev Imm := Nat → Nat → Option Value

mutual
def Rel (G : Imm) : CV → Value → Prop
  | .int k n, v => v = .int k n
  | .bool b, v => v = .bool b
  | .str s, v => v = .string ⟨s.toArray⟩
  | .nilp, v => v = .pointer none
  | .undef, v => v = Go.undef
  | .sl s rows, v => ∃ base len cap, v = .slice base len cap ∧ len = rows.length ∧ len ≤ cap ∧
      (rows = [] ∨ ∃ b o, base = some ⟨b, o, none⟩ ∧ RowsG G s b o rows)
  | .agg cs, v => ∃ vs : List Value, v = .agg vs.toArray ∧ RelL G cs vs ∧ cs.all CV.one = true
  | .ip cs, v => ∃ b o, v = .pointer (some ⟨b, o, none⟩) ∧ CellsG G b o cs
  | .clo f caps, v => ∃ vs : List Value, v = .func (.func f) #[] vs.toArray ∧ RelL G caps vs
  | .tup cs, v => ∃ vs : List Value, v = .tuple vs.toArray ∧ RelL G cs vs ∧ 2 ≤ cs.length
  | .any, v => (∀ vs, v ≠ .agg vs) ∧ ∀ vs, v ≠ .tuple vs
  | .abool, v => ∃ x, v = .bool x
def RelL (G : Imm) : List CV → List Value → Prop
  | [], vs => vs = []
  | c :: cs, vs => ∃ u us, vs = u :: us ∧ Rel G c u ∧ RelL G cs us
def CellsG (G : Imm) : Nat → Nat → List CV → Prop
  | _, _, [] => True
  | b, o, c :: cs => (∃ u, G b o = some u ∧ Rel G c u ∧ c.one = true) ∧ CellsG G b (o + 1) cs
def RowG (G : Imm) : Nat → Nat → CV → Prop
  | b, o, .agg cs => CellsG G b o cs
  | b, o, .int k n => G b o = some (.int k n)
  | b, o, .bool x => G b o = some (.bool x)
  | b, o, .str s => G b o = some (.string ⟨s.toArray⟩)
  | b, o, .nilp => G b o = some (.pointer none)
  | _, _, .undef => False
  | b, o, .sl s rows => ∃ base len cap, G b o = some (.slice base len cap) ∧ len = rows.length ∧ len ≤ cap ∧
      (rows = [] ∨ ∃ b' o', base = some ⟨b', o', none⟩ ∧ RowsG G s b' o' rows)
  | b, o, .ip cs => ∃ b' o', G b o = some (.pointer (some ⟨b', o', none⟩)) ∧ CellsG G b' o' cs
  | b, o, .clo f caps => ∃ vs : List Value, G b o = some (.func (.func f) #[] vs.toArray) ∧ RelL G caps vs
  | _, _, .tup _ => False
  | b, o, .any => ∃ v, G b o = some v ∧ (∀ vs, v ≠ .agg vs) ∧ ∀ vs, v ≠ .tuple vs
  | b, o, .abool => ∃ x, G b o = some (.bool x)
def RowsG (G : Imm) : Nat → Nat → Nat → List CV → Prop
  | _, _, _, [] => True
  | s, b, o, r :: rs => RowG G b o r ∧ r.cells.length = s ∧ RowsG G s b (o + s) rs
end

theorem rowG_iff (G : Imm) (b o : Nat) (r : CV) : RowG G b o r ↔ CellsG G b o r.cells := by
  cases r with
  | sl s rows =>
    simp only [RowG, CV.cells, CellsG, CV.one, Rel, and_true]
    constructor
    · rintro ⟨base, len, cap, h, h'⟩; exact ⟨_, h, base, len, cap, rfl, h'⟩
    · rintro ⟨u, h, base, len, cap, rfl, h'⟩; exact ⟨base, len, cap, h, h'⟩
  | ip cs =>
    simp only [RowG, CV.cells, CellsG, CV.one, Rel, and_true]
    constructor
    · rintro ⟨b', o', h, h'⟩; exact ⟨_, h, b', o', rfl, h'⟩
    · rintro ⟨u, h, b', o', rfl, h'⟩; exact ⟨b', o', h, h'⟩
  | clo f caps =>
    simp only [RowG, CV.cells, CellsG, CV.one, Rel, and_true]
    constructor
    · rintro ⟨vs, h, h'⟩; exact ⟨_, h, vs, rfl, h'⟩
    · rintro ⟨u, h, vs, rfl, h'⟩; exact ⟨vs, h, h'⟩
  | abool =>
    simp only [RowG, CV.cells, CellsG, CV.one, Rel, and_true]
    constructor
    · rintro ⟨x, h⟩; exact ⟨_, h, x, rfl⟩
    · rintro ⟨u, h, x, rfl⟩; exact ⟨x, h⟩
  | _ => simp [RowG, CV.cells, CellsG, CV.one, Rel]

/-- One memory says all that another one says. -/
def Imm.le (G G' : Imm) : Prop := ∀ b o v, G b o = some v → G' b o = some v

theorem Imm.le.refl (G : Imm) : G.le G := fun _ _ _ h => h
theorem Imm.le.trans {G G' G'' : Imm} (h : G.le G') (h' : G'.le G'') : G.le G'' := fun b o v x => h' b o v (h b o v x)

mutual
theorem Rel.mono {G G' : Imm} (h : G.le G') : ∀ (c : CV) (v : Value), Rel G c v → Rel G' c v
  | .int _ _, _, x => by simpa [Rel] using x
  | .bool _, _, x => by simpa [Rel] using x
  | .str _, _, x => by simpa [Rel] using x
  | .nilp, _, x => by simpa [Rel] using x
  | .undef, _, x => by simpa [Rel] using x
  | .sl s rows, v, x => by
    simp only [Rel] at x ⊢
    obtain ⟨base, len, cap, e, hl, hc, hr⟩ := x
    exact ⟨base, len, cap, e, hl, hc, hr.imp id fun ⟨b, o, hb, hr⟩ => ⟨b, o, hb, RowsG.mono h s b o rows hr⟩⟩
  | .agg cs, v, x => by
    simp only [Rel] at x ⊢
    obtain ⟨vs, e, hr, ho⟩ := x
    exact ⟨vs, e, RelL.mono h cs vs hr, ho⟩
  | .ip cs, v, x => by
    simp only [Rel] at x ⊢
    obtain ⟨b, o, e, hr⟩ := x
    exact ⟨b, o, e, CellsG.mono h b o cs hr⟩
  | .clo f caps, v, x => by
    simp only [Rel] at x ⊢
    obtain ⟨vs, e, hr⟩ := x
    exact ⟨vs, e, RelL.mono h caps vs hr⟩
  | .tup cs, v, x => by
    simp only [Rel] at x ⊢
    obtain ⟨vs, e, hr, ho⟩ := x
    exact ⟨vs, e, RelL.mono h cs vs hr, ho⟩
  | .any, _, x => by simp only [Rel] at x ⊢; exact x
  | .abool, _, x => by simp only [Rel] at x ⊢; exact x
theorem RelL.mono {G G' : Imm} (h : G.le G') : ∀ (cs : List CV) (vs : List Value), RelL G cs vs → RelL G' cs vs
  | [], _, x => by simpa [RelL] using x
  | c :: cs, vs, x => by
    simp only [RelL] at x ⊢
    obtain ⟨u, us, e, hc, hr⟩ := x
    exact ⟨u, us, e, Rel.mono h c u hc, RelL.mono h cs us hr⟩
theorem CellsG.mono {G G' : Imm} (h : G.le G') : ∀ (b o : Nat) (cs : List CV), CellsG G b o cs → CellsG G' b o cs
  | _, _, [], _ => by simp [CellsG]
  | b, o, c :: cs, x => by
    simp only [CellsG] at x ⊢
    obtain ⟨⟨u, hu, hc, ho⟩, hr⟩ := x
    exact ⟨⟨u, h b o u hu, Rel.mono h c u hc, ho⟩, CellsG.mono h b (o + 1) cs hr⟩
theorem RowG.mono {G G' : Imm} (h : G.le G') : ∀ (b o : Nat) (r : CV), RowG G b o r → RowG G' b o r
  | b, o, .agg cs, x => by simp only [RowG] at x ⊢; exact CellsG.mono h b o cs x
  | b, o, .int _ _, x => by simp only [RowG] at x ⊢; exact h _ _ _ x
  | b, o, .bool _, x => by simp only [RowG] at x ⊢; exact h _ _ _ x
  | b, o, .str _, x => by simp only [RowG] at x ⊢; exact h _ _ _ x
  | b, o, .nilp, x => by simp only [RowG] at x ⊢; exact h _ _ _ x
  | _, _, .undef, x => by simp [RowG] at x
  | b, o, .sl s rows, x => by
    simp only [RowG] at x ⊢
    obtain ⟨base, len, cap, e, hl, hc, hr⟩ := x
    exact ⟨base, len, cap, h _ _ _ e, hl, hc, hr.imp id fun ⟨b, o, hb, hr⟩ => ⟨b, o, hb, RowsG.mono h s b o rows hr⟩⟩
  | b, o, .ip cs, x => by
    simp only [RowG] at x ⊢
    obtain ⟨b', o', e, hr⟩ := x
    exact ⟨b', o', h _ _ _ e, CellsG.mono h b' o' cs hr⟩
  | b, o, .clo f caps, x => by
    simp only [RowG] at x ⊢
    obtain ⟨vs, e, hr⟩ := x
    exact ⟨vs, h _ _ _ e, RelL.mono h caps vs hr⟩
  | _, _, .tup _, x => by simp [RowG] at x
  | b, o, .any, x => by
    simp only [RowG] at x ⊢
    obtain ⟨v, e, hr⟩ := x
    exact ⟨v, h _ _ _ e, hr⟩
  | b, o, .abool, x => by
    simp only [RowG] at x ⊢
    obtain ⟨v, e⟩ := x
    exact ⟨v, h _ _ _ e⟩
theorem RowsG.mono {G G' : Imm} (h : G.le G') : ∀ (s b o : Nat) (rs : List CV), RowsG G s b o rs → RowsG G' s b o rs
  | _, _, _, [], _ => by simp [RowsG]
  | s, b, o, r :: rs, x => by
    simp only [RowsG] at x ⊢
    exact ⟨RowG.mono h b o r x.1, x.2.1, RowsG.mono h s b (o + s) rs x.2.2⟩
end

end Go.Abs

namespace Go.Abs

inductive Own where
  | exact
  | tok (key n : Nat)
  deriving Inhabited

inductive AV where
  | c (v : CV)
  | own (k : Own) (s : Nat) (rows : List CV)
  | ptr (key off : Nat)
  | bsl (key off s n : Nat)
  | any
  | agg (cs : List AV)
  | tup (cs : List AV)
  deriving Inhabited

def AV.one : AV → Bool
  | .c v => v.one
  | .own .. | .ptr .. | .bsl .. | .any => true
  | .agg _ | .tup _ => false

structure Gh where
  G : Imm
  box : Nat → Option Nat
  tok : Nat → Option (Nat × Option (Nat × Nat × Nat))
  room : Nat → Nat

def RowsAt (G : Imm) (s : Nat) (base : Option Addr) (rows : List CV) : Prop :=
  rows = [] ∨ ∃ b o, base = some ⟨b, o, none⟩ ∧ RowsG G s b o rows

def OwnOk (g : Gh) (s : Nat) (base : Option Addr) (len cap : Nat) : Own → Prop
  | .exact => cap = len
  | .tok key n => ∃ hw reg, g.tok key = some (hw, reg) ∧ n ≤ hw ∧ (hw = n → cap = len ∨
      ∃ b lo hi o, reg = some (b, lo, hi) ∧ base = some ⟨b, o, none⟩ ∧ lo = o + len * s ∧ hi = o + cap * s ∧ len ≤ cap)

mutual
def RelA (g : Gh) : AV → Value → Prop
  | .c v, x => Rel g.G v x
  | .own k s rows, x => ∃ base len cap, x = .slice base len cap ∧ len = rows.length ∧ len ≤ cap ∧ RowsAt g.G s base rows ∧ OwnOk g s base len cap k
  | .ptr key off, x => ∃ b, g.box key = some b ∧ x = .pointer (some ⟨b, off, none⟩)
  | .bsl key off s n, x => ∃ b cap o, g.box key = some b ∧ x = .slice o n cap ∧ n ≤ cap ∧ off + cap * s ≤ g.room key ∧ (cap = 0 ∨ o = some ⟨b, off, none⟩)
  | .any, x => (∀ vs, x ≠ .agg vs) ∧ ∀ vs, x ≠ .tuple vs
  | .agg cs, x => ∃ vs : List Value, x = .agg vs.toArray ∧ RelAL g cs vs ∧ cs.all AV.one = true
  | .tup cs, x => ∃ vs : List Value, x = .tuple vs.toArray ∧ RelAL g cs vs ∧ 2 ≤ cs.length
def RelAL (g : Gh) : List AV → List Value → Prop
  | [], vs => vs = []
  | c :: cs, vs => ∃ u us, vs = u :: us ∧ RelA g c u ∧ RelAL g cs us
end

def Gh.le (g g' : Gh) : Prop :=
  g.G.le g'.G ∧ (∀ k b, g.box k = some b → g'.box k = some b) ∧ (∀ k b, g.box k = some b → g'.room k = g.room k) ∧
  ∀ k hw reg, g.tok k = some (hw, reg) → ∃ hw' reg', g'.tok k = some (hw', reg') ∧ hw ≤ hw' ∧ (hw' = hw → reg' = reg)

theorem Gh.le.refl (g : Gh) : g.le g := ⟨Imm.le.refl _, fun _ _ h => h, fun _ _ _ => rfl, fun _ hw reg h => ⟨hw, reg, h, Nat.le_refl _, fun _ => rfl⟩⟩
theorem Gh.le.trans {g g' g'' : Gh} (h : g.le g') (h' : g'.le g'') : g.le g'' := by
  refine ⟨h.1.trans h'.1, fun k b x => h'.2.1 k b (h.2.1 k b x), fun k b x => (h'.2.2.1 k b (h.2.1 k b x)).trans (h.2.2.1 k b x), fun k hw reg x => ?_⟩
  obtain ⟨hw1, reg1, x1, l1, e1⟩ := h.2.2.2 k hw reg x
  obtain ⟨hw2, reg2, x2, l2, e2⟩ := h'.2.2.2 k hw1 reg1 x1
  refine ⟨hw2, reg2, x2, Nat.le_trans l1 l2, fun e => ?_⟩
  have : hw2 = hw1 := by omega
  rw [e2 this, e1 (by omega)]

theorem RowsAt.mono {G G' : Imm} (h : G.le G') {s : Nat} {base : Option Addr} {rows : List CV} (x : RowsAt G s base rows) : RowsAt G' s base rows :=
  x.imp id fun ⟨b, o, e, r⟩ => ⟨b, o, e, RowsG.mono h s b o rows r⟩

theorem OwnOk.mono {g g' : Gh} (h : g.le g') {s : Nat} {base : Option Addr} {len cap : Nat} : ∀ {k : Own}, OwnOk g s base len cap k → OwnOk g' s base len cap k
  | .exact, x => x
  | .tok key n, ⟨hw, reg, e, hn, hr⟩ => by
    obtain ⟨hw', reg', e', hl, hsame⟩ := h.2.2.2 key hw reg e
    refine ⟨hw', reg', e', Nat.le_trans hn hl, fun hh => ?_⟩
    have e1 : hw' = hw := by omega
    rw [hsame e1]
    exact hr (by omega)

mutual
theorem RelA.mono {g g' : Gh} (h : g.le g') : ∀ (a : AV) (v : Value), RelA g a v → RelA g' a v
  | .c v, x, r => by simp only [RelA] at r ⊢; exact Rel.mono h.1 v x r
  | .own k s rows, x, r => by
    simp only [RelA] at r ⊢
    obtain ⟨base, len, cap, e, hl, hc, hr, ho⟩ := r
    exact ⟨base, len, cap, e, hl, hc, hr.mono h.1, ho.mono h⟩
  | .ptr key off, x, r => by
    simp only [RelA] at r ⊢
    obtain ⟨b, hb, e⟩ := r
    exact ⟨b, h.2.1 _ _ hb, e⟩
  | .bsl key off s n, x, r => by
    simp only [RelA] at r ⊢
    obtain ⟨b, cap, o, hb, e, h1, h2, h3⟩ := r
    exact ⟨b, cap, o, h.2.1 _ _ hb, e, h1, by rw [h.2.2.1 _ _ hb]; exact h2, h3⟩
  | .any, x, r => by simp only [RelA] at r ⊢; exact r
  | .agg cs, x, r => by
    simp only [RelA] at r ⊢
    obtain ⟨vs, e, hr, ho⟩ := r
    exact ⟨vs, e, RelAL.mono h cs vs hr, ho⟩
  | .tup cs, x, r => by
    simp only [RelA] at r ⊢
    obtain ⟨vs, e, hr, ho⟩ := r
    exact ⟨vs, e, RelAL.mono h cs vs hr, ho⟩
theorem RelAL.mono {g g' : Gh} (h : g.le g') : ∀ (cs : List AV) (vs : List Value), RelAL g cs vs → RelAL g' cs vs
  | [], _, r => by simpa [RelAL] using r
  | c :: cs, vs, r => by
    simp only [RelAL] at r ⊢
    obtain ⟨u, us, e, hc, hr⟩ := r
    exact ⟨u, us, e, RelA.mono h c u hc, RelAL.mono h cs us hr⟩
end

/-- The first entry of a log under a key. -/
def getK {α : Type} (k : Nat) : List (Nat × α) → Option α
  | [] => none
  | (j, x) :: l => match Nat.beq j k with
    | true => some x
    | false => getK k l

/-- The log with the first entry under the key taken away (if there is none: as it is). -/
def delK {α : Type} (k : Nat) : List (Nat × α) → List (Nat × α)
  | [] => []
  | (j, x) :: l => match Nat.beq j k with
    | true => delK k l
    | false => (j, x) :: delK k l

def setK {α : Type} (k : Nat) (y : α) : List (Nat × α) → List (Nat × α)
  | [] => [(k, y)]
  | (j, x) :: l => match Nat.beq j k with
    | true => (j, y) :: l
    | false => (j, x) :: setK k y l

/-- Likewise, written out. -/
def setKF {α : Type} (k : Nat) (y : α) : List (Nat × α) → Option (List (Nat × α))
  | [] => some [(k, y)]
  | (j, x) :: l => match Nat.beq j k with
    | true => some ((j, y) :: l)
    | false => match setKF k y l with
      | some r => some ((j, x) :: r)
      | none => none

theorem setKF_eq {α : Type} (k : Nat) (y : α) : ∀ (l : List (Nat × α)), setKF k y l = some (setK k y l)
  | [] => rfl
  | (j, x) :: l => by
    simp only [setKF, setK, setKF_eq k y l]
    split <;> rfl

theorem beq_true {j k : Nat} (h : Nat.beq j k = true) : j = k := Nat.eq_of_beq_eq_true h
theorem beq_false {j k : Nat} (h : Nat.beq j k = false) : j ≠ k := Nat.ne_of_beq_eq_false h

theorem getK_delK {α : Type} (k j : Nat) (l : List (Nat × α)) : getK j (delK k l) = if j = k then none else getK j l := by
  induction l with
  | nil => simp [delK, getK]
  | cons x l ih =>
    obtain ⟨i, x⟩ := x
    simp only [delK]
    split
    · rename_i h; have := beq_true h; subst this
      rw [ih]
      split
      · rfl
      · rename_i hne
        simp only [getK]
        split
        · rename_i h2; exact absurd (beq_true h2).symm hne
        · rfl
    · rename_i h; have hne := beq_false h
      simp only [getK]
      split
      · rename_i h2; have := beq_true h2; subst this; rw [if_neg hne]
      · rw [ih]

theorem getK_setK {α : Type} (k j : Nat) (y : α) (l : List (Nat × α)) : getK j (setK k y l) = if j = k then some y else getK j l := by
  induction l with
  | nil =>
    simp only [setK, getK]
    split
    · rename_i h; have := beq_true h; subst this; simp
    · rename_i h; have := beq_false h; rw [if_neg (fun e => this e.symm)]
  | cons x l ih =>
    obtain ⟨i, x⟩ := x
    simp only [setK]
    split
    · rename_i h; have := beq_true h; subst this
      simp only [getK]
      split
      · rename_i h2; have := beq_true h2; subst this; simp
      · rename_i h2; have := beq_false h2; rw [if_neg (fun e => this e.symm)]
    · rename_i h; have hne := beq_false h
      simp only [getK]
      split
      · rename_i h2; have := beq_true h2; subst this; rw [if_neg hne]
      · rw [ih]

structure St where
  boxes : List (Nat × List AV)
  toks : List (Nat × Nat)
  used : List Nat
  deriving Inhabited

def CellsW (w : World) (g : Gh) (b : Nat) : Nat → List AV → Prop
  | _, [] => True
  | o, c :: cs => (∃ u, w.cell? ⟨b, o, none⟩ = some u ∧ RelA g c u ∧ c.one = true) ∧ w.frozen? ⟨b, o, none⟩ = false ∧ CellsW w g b (o + 1) cs

theorem CellsW.mono {w : World} {g g' : Gh} (h : g.le g') {b : Nat} : ∀ {o : Nat} {cs : List AV}, CellsW w g b o cs → CellsW w g' b o cs
  | _, [], _ => trivial
  | _, _ :: _, ⟨⟨u, hu, hr, ho⟩, hf, hrest⟩ => ⟨⟨u, hu, RelA.mono h _ _ hr, ho⟩, hf, CellsW.mono h hrest⟩

theorem CellsW.of_same {w w' : World} {g : Gh} {b : Nat} (h : ∀ o, w'.cell? ⟨b, o, none⟩ = w.cell? ⟨b, o, none⟩ ∧ w'.frozen? ⟨b, o, none⟩ = w.frozen? ⟨b, o, none⟩) :
    ∀ {o : Nat} {cs : List AV}, CellsW w g b o cs → CellsW w' g b o cs
  | _, [], _ => trivial
  | _, _ :: _, ⟨⟨u, hu, hr, ho⟩, hf, hrest⟩ => ⟨⟨u, (h _).1.trans hu, hr, ho⟩, (h _).2.trans hf, CellsW.of_same h hrest⟩

structure Inv (w : World) (g : Gh) (σ : St) : Prop where
  imm : ∀ b o v, g.G b o = some v → w.cell? ⟨b, o, none⟩ = some v
  box : ∀ k cs, getK k σ.boxes = some cs → ∃ b, g.box k = some b ∧ b < w.heap.size ∧ (∀ o, g.G b o = none) ∧ CellsW w g b 0 cs
  boxinj : ∀ k k' cs cs' b, getK k σ.boxes = some cs → getK k' σ.boxes = some cs' → g.box k = some b → g.box k' = some b → k = k'
  tok : ∀ k n, getK k σ.toks = some n → ∃ reg, g.tok k = some (n, reg) ∧ ∀ b lo hi, reg = some (b, lo, hi) → b < w.heap.size ∧
    (∀ o, lo ≤ o → o < hi → g.G b o = none ∧ (∃ u, w.cell? ⟨b, o, none⟩ = some u) ∧ w.frozen? ⟨b, o, none⟩ = false) ∧
    ∀ k' cs, getK k' σ.boxes = some cs → g.box k' ≠ some b
  tokinj : ∀ k k' n n' b lo hi lo' hi', getK k σ.toks = some n → getK k' σ.toks = some n' →
    g.tok k = some (n, some (b, lo, hi)) → g.tok k' = some (n', some (b, lo', hi')) → k = k'
  used : ∀ k, g.box k ≠ none ∨ g.tok k ≠ none → k ∈ σ.used
  room : ∀ k cs b, getK k σ.boxes = some cs → g.box k = some b → ∀ o, (o < g.room k → ∃ u, w.cell? ⟨b, o, none⟩ = some u) ∧ w.frozen? ⟨b, o, none⟩ = false

/-- Where all blocks of boxes are as they were. -/
theorem Inv.room_same {w w' : World} {g : Gh} {σ : St} (hinv : Inv w g σ) (h : ∀ k cs b, getK k σ.boxes = some cs → g.box k = some b → b < w.heap.size → ∀ o, w'.cell? ⟨b, o, none⟩ = w.cell? ⟨b, o, none⟩ ∧ w'.frozen? ⟨b, o, none⟩ = w.frozen? ⟨b, o, none⟩) :
    ∀ k cs b, getK k σ.boxes = some cs → g.box k = some b → ∀ o, (o < g.room k → ∃ u, w'.cell? ⟨b, o, none⟩ = some u) ∧ w'.frozen? ⟨b, o, none⟩ = false := by
  intro k cs b e hb o
  obtain ⟨b', h1, h2, _⟩ := hinv.box k cs e
  rw [hb] at h1; cases h1
  obtain ⟨h3, h4⟩ := hinv.room k cs b e hb o
  have := h k cs b e hb h2 o
  exact ⟨fun ho => (h3 ho).imp fun u hu => this.1.trans hu, this.2.trans h4⟩

/-- A cell that the state may write. -/
def Owned (g : Gh) (σ : St) (b o : Nat) : Prop :=
  (∃ k cs, getK k σ.boxes = some cs ∧ g.box k = some b) ∨
  ∃ k n lo hi, getK k σ.toks = some n ∧ g.tok k = some (n, some (b, lo, hi)) ∧ lo ≤ o ∧ o < hi

structure Keep (w : World) (g : Gh) (σ : St) (w' : World) (g' : Gh) (σ' : St) : Prop where
  os : w'.os = w.os
  tape : w'.tape = w.tape
  output : w'.output = w.output
  size : w.heap.size ≤ w'.heap.size
  block : ∀ b, b < w.heap.size → (∀ o, ¬ Owned g σ b o) → w'.heap[b]? = w.heap[b]?
  kept : ∀ b o, b < w.heap.size → ¬ Owned g σ b o → w'.cell? ⟨b, o, none⟩ = w.cell? ⟨b, o, none⟩ ∧ w'.frozen? ⟨b, o, none⟩ = w.frozen? ⟨b, o, none⟩
  le : g.G.le g'.G
  new : ∀ b o v, g'.G b o = some v → g.G b o = some v ∨ w.heap.size ≤ b ∨ Owned g σ b o
  boxes : ∀ k cs b, getK k σ'.boxes = some cs → g'.box k = some b → w.heap.size ≤ b ∨ ∃ k0 cs0, getK k0 σ.boxes = some cs0 ∧ g.box k0 = some b
  toks : ∀ k n b lo hi, getK k σ'.toks = some n → g'.tok k = some (n, some (b, lo, hi)) → w.heap.size ≤ b ∨
    ∃ k0 n0 lo0 hi0, getK k0 σ.toks = some n0 ∧ g.tok k0 = some (n0, some (b, lo0, hi0)) ∧ lo0 ≤ lo ∧ hi ≤ hi0
  ids : ∀ k, 1000000 ≤ k → getK k σ'.boxes ≠ none → getK k σ.boxes ≠ none ∧ g'.box k = g.box k ∧ g'.room k = g.room k

theorem Keep.owned {w w' : World} {g g' : Gh} {σ σ' : St} (h : Keep w g σ w' g' σ') {b o : Nat} (ho : Owned g' σ' b o) : w.heap.size ≤ b ∨ Owned g σ b o := by
  rcases ho with ⟨k, cs, h1, h2⟩ | ⟨k, n, lo, hi, h1, h2, h3, h4⟩
  · exact (h.boxes k cs b h1 h2).imp id fun ⟨k0, cs0, e⟩ => .inl ⟨k0, cs0, e⟩
  · exact (h.toks k n b lo hi h1 h2).imp id fun ⟨k0, n0, lo0, hi0, e1, e2, e3, e4⟩ => .inr ⟨k0, n0, lo0, hi0, e1, e2, by omega, by omega⟩

theorem Keep.refl (w : World) (g : Gh) (σ : St) : Keep w g σ w g σ where
  os := rfl
  tape := rfl
  output := rfl
  size := Nat.le_refl _
  block := fun _ _ _ => rfl
  kept := fun _ _ _ _ => ⟨rfl, rfl⟩
  le := Imm.le.refl _
  new := fun _ _ _ h => .inl h
  boxes := fun k cs _ h1 h2 => .inr ⟨k, cs, h1, h2⟩
  toks := fun k n _ lo hi h1 h2 => .inr ⟨k, n, lo, hi, h1, h2, Nat.le_refl _, Nat.le_refl _⟩
  ids := fun _ _ h => ⟨h, rfl, rfl⟩

theorem Keep.trans {w w1 w2 : World} {g g1 g2 : Gh} {σ σ1 σ2 : St} (h : Keep w g σ w1 g1 σ1) (h' : Keep w1 g1 σ1 w2 g2 σ2) : Keep w g σ w2 g2 σ2 where
  os := h'.os.trans h.os
  tape := h'.tape.trans h.tape
  output := h'.output.trans h.output
  size := Nat.le_trans h.size h'.size
  block := fun b hb ho => by
    rw [h'.block b (Nat.lt_of_lt_of_le hb h.size) fun o hh => by
      rcases h.owned hh with x | x
      · omega
      · exact ho o x]
    exact h.block b hb ho
  kept := fun b o hb ho => by
    have h1 := h.kept b o hb ho
    have h2 := h'.kept b o (Nat.lt_of_lt_of_le hb h.size) fun hh => by
      rcases h.owned hh with x | x
      · omega
      · exact ho x
    exact ⟨h2.1.trans h1.1, h2.2.trans h1.2⟩
  le := h.le.trans h'.le
  new := fun b o v x => by
    rcases h'.new b o v x with x | x | x
    · exact h.new b o v x
    · exact .inr (.inl (Nat.le_trans h.size x))
    · rcases h.owned x with x | x
      · exact .inr (.inl x)
      · exact .inr (.inr x)
  boxes := fun k cs b h1 h2 => by
    rcases h'.boxes k cs b h1 h2 with x | ⟨k0, cs0, e1, e2⟩
    · exact .inl (Nat.le_trans h.size x)
    · exact h.boxes k0 cs0 b e1 e2
  toks := fun k n b lo hi h1 h2 => by
    rcases h'.toks k n b lo hi h1 h2 with x | ⟨k0, n0, lo0, hi0, e1, e2, e3, e4⟩
    · exact .inl (Nat.le_trans h.size x)
    · rcases h.toks k0 n0 b lo0 hi0 e1 e2 with x | ⟨k1, n1, lo1, hi1, f1, f2, f3, f4⟩
      · exact .inl x
      · exact .inr ⟨k1, n1, lo1, hi1, f1, f2, by omega, by omega⟩
  ids := fun k hk h2 => by
    obtain ⟨h3, h4, h4'⟩ := h'.ids k hk h2
    obtain ⟨h5, h6, h6'⟩ := h.ids k hk h3
    exact ⟨h5, h4.trans h6, h4'.trans h6'⟩

/-- The environment: what stands in the slots. -/
def EnvOk (g : Gh) (env : List (Nat × AV)) (tmps : Array Value) : Prop := ∀ t a, getK t env = some a → RelA g a (tmps.getD t undef)

theorem EnvOk.mono {g g' : Gh} (h : g.le g') {env : List (Nat × AV)} {tmps : Array Value} (x : EnvOk g env tmps) : EnvOk g' env tmps :=
  fun t a e => RelA.mono h _ _ (x t a e)

end Go.Abs

namespace Go.Abs

inductive TK where
  | int (k : IntKind) | bool | str | ptr (e : Nat) | slice (e : Nat) | arr (n e : Nat) | struct (fs : List (Nat × Nat)) | other
  deriving Inhabited

structure TI where
  size : Nat
  bytes : Nat
  kind : TK
  zero : Option AV
  deriving Inhabited

def TI.isAgg (i : TI) : Bool := match i.kind with
  | .arr .. | .struct .. => true
  | _ => false

structure Ctx where
  ti : Nat → Option TI
  glob : Nat → Option CV

def KindOk (P : Program) : TK → TypeDesc → Prop
  | .int k, d => d = .int k
  | .bool, d => d = .bool
  | .str, d => d = .string
  | .ptr e, d => d = .pointer e
  | .slice e, d => d = .slice e
  | .arr n e, d => d = .array n e
  | .struct fs, d => ∃ fields : Array Field, d = .struct fields ∧ fields.toList.map (fun f => (f.offset, f.type)) = fs ∧
      ∀ f ∈ fields.toList, ∃ inf, P.info? f.type = some inf ∧ inf.size ≠ 0
  | .other, d => (match d with | .struct _ | .array _ _ => false | _ => true) = true

structure CtxOk (P : Program) (X : Ctx) : Prop where
  ti : ∀ t i, X.ti t = some i → ∃ inf, P.info? t = some inf ∧ inf.size = i.size ∧ inf.bytes = i.bytes ∧
    (∀ a, i.zero = some a → ∃ z, inf.zero = some z ∧ (∀ g, RelA g a z) ∧ z.cells.size = i.size) ∧ (∃ d, P.underlying t = some d ∧ KindOk P i.kind d) ∧ i.size ≠ 0

def GlobOk (X : Ctx) (G : Imm) : Prop := ∀ n v, X.glob n = some v → Rel G v (.pointer (some ⟨n, 0, none⟩))

section types
variable {P : Program} {X : Ctx} {w : World} {t : Nat} {i : TI}
theorem CtxOk.run_sizeOf (h : CtxOk P X) (e : X.ti t = some i) : (sizeOf t).run P w = .ok i.size w := by
  obtain ⟨inf, h1, h2, _⟩ := h.ti t i e
  simp [sizeOf, typeInfo, h1, h2]
theorem CtxOk.run_underlying (h : CtxOk P X) (e : X.ti t = some i) : ∃ d, (underlying t).run P w = .ok d w ∧ KindOk P i.kind d ∧ P.underlying t = some d := by
  obtain ⟨inf, h1, h2, h3, _, ⟨d, h4, h5⟩, _⟩ := h.ti t i e
  exact ⟨d, by simp [underlying, h4], h5, h4⟩
theorem CtxOk.run_zeroValue (h : CtxOk P X) (e : X.ti t = some i) {a : AV} (ea : i.zero = some a) : ∃ z, (zeroValue t).run P w = .ok z w ∧ (∀ g, RelA g a z) ∧ z.cells.size = i.size := by
  obtain ⟨inf, h1, h2, h3, h7, _⟩ := h.ti t i e
  obtain ⟨z, h4, h5, h6⟩ := h7 a ea
  exact ⟨z, by simp [zeroValue, typeInfo, h1, h4], h5, h6⟩
theorem CtxOk.run_isAgg (h : CtxOk P X) (e : X.ti t = some i) : (isAgg t).run P w = .ok i.isAgg w := by
  obtain ⟨d, h1, h2, _⟩ := h.run_underlying (w := w) e
  simp only [isAgg, Sem.run_bind, h1, Result.andThen_ok]
  unfold TI.isAgg
  cases hk : i.kind <;> rw [hk] at h2 <;> simp only [KindOk] at h2
  case struct fs => obtain ⟨fields, rfl, _⟩ := h2; rfl
  case other => cases d <;> simp at h2 <;> rfl
  all_goals subst h2; rfl
end types

def takeN {α : Type} : Nat → List α → Option (List α)
  | 0, _ => some []
  | _ + 1, [] => none
  | n + 1, x :: l => match takeN n l with
    | some r => some (x :: r)
    | none => none

def dropN {α : Type} : Nat → List α → Option (List α)
  | 0, l => some l
  | _ + 1, [] => none
  | n + 1, _ :: l => dropN n l

theorem takeN_eq {α : Type} : ∀ {n : Nat} {l r : List α}, takeN n l = some r → r = l.take n ∧ n ≤ l.length
  | 0, l, r, h => by simp [takeN] at h; subst h; simp
  | n + 1, [], r, h => by simp [takeN] at h
  | n + 1, x :: l, r, h => by
    simp only [takeN] at h
    split at h
    · rename_i r' h'
      obtain ⟨rfl, hl⟩ := takeN_eq h'
      simp at h; subst h; simp; exact hl
    · simp at h

theorem dropN_eq {α : Type} : ∀ {n : Nat} {l r : List α}, dropN n l = some r → r = l.drop n ∧ n ≤ l.length
  | 0, l, r, h => by simp [dropN] at h; subst h; simp
  | n + 1, [], r, h => by simp [dropN] at h
  | n + 1, x :: l, r, h => by
    simp only [dropN] at h
    obtain ⟨rfl, hl⟩ := dropN_eq h
    simp; exact hl

/-- Cells of immutable memory, one by one. -/
theorem CellsG.get {G : Imm} {b : Nat} : ∀ {o : Nat} {cs : List CV}, CellsG G b o cs → ∀ (j : Nat) c, cs[j]? = some c → ∃ u, G b (o + j) = some u ∧ Rel G c u ∧ c.one = true
  | o, [], _, j, c, h => by simp at h
  | o, x :: cs, h, j, c, hj => by
    simp only [CellsG] at h
    cases j with
    | zero => simp at hj; subst hj; exact h.1
    | succ j =>
      simp at hj
      have := h.2.get j c hj
      rwa [show o + 1 + j = o + (j + 1) from by omega] at this

theorem CellsG.drop {G : Imm} {b : Nat} : ∀ {o n : Nat} {cs : List CV}, CellsG G b o cs → CellsG G b (o + n) (cs.drop n)
  | o, 0, cs, h => by simpa using h
  | o, n + 1, [], h => by simp [CellsG]
  | o, n + 1, x :: cs, h => by
    simp only [CellsG] at h
    have := CellsG.drop (n := n) h.2
    simpa [show o + 1 + n = o + (n + 1) from by omega] using this

theorem CellsG.of_get {G : Imm} {b : Nat} : ∀ {o : Nat} {cs : List CV}, (∀ (j : Nat) c, cs[j]? = some c → ∃ u, G b (o + j) = some u ∧ Rel G c u ∧ c.one = true) → CellsG G b o cs
  | o, [], _ => by simp [CellsG]
  | o, x :: cs, h => by
    simp only [CellsG]
    refine ⟨by simpa using h 0 x (by simp), CellsG.of_get fun j c hj => ?_⟩
    have := h (j + 1) c (by simpa using hj)
    rwa [show o + (j + 1) = o + 1 + j from by omega] at this

theorem RowsG.get {G : Imm} {s b : Nat} : ∀ {o : Nat} {rows : List CV}, RowsG G s b o rows → ∀ (j : Nat) r, rows[j]? = some r → CellsG G b (o + j * s) r.cells ∧ r.cells.length = s
  | o, [], _, j, r, h => by simp at h
  | o, x :: rows, h, j, r, hj => by
    simp only [RowsG] at h
    cases j with
    | zero => simp at hj; subst hj; exact ⟨by simpa using (rowG_iff G b o x).1 h.1, h.2.1⟩
    | succ j =>
      simp at hj
      have := h.2.2.get j r hj
      rwa [show o + s + j * s = o + (j + 1) * s from by rw [Nat.succ_mul]; omega] at this

theorem RowsG.drop {G : Imm} {s b : Nat} : ∀ {o n : Nat} {rows : List CV}, RowsG G s b o rows → RowsG G s b (o + n * s) (rows.drop n)
  | o, 0, rows, h => by simpa using h
  | o, n + 1, [], h => by simp [RowsG]
  | o, n + 1, x :: rows, h => by
    simp only [RowsG] at h
    have := RowsG.drop (n := n) h.2.2
    simpa [show o + s + n * s = o + (n + 1) * s from by rw [Nat.succ_mul]; omega] using this

theorem RowsG.take {G : Imm} {s b : Nat} : ∀ {o n : Nat} {rows : List CV}, RowsG G s b o rows → RowsG G s b o (rows.take n)
  | o, 0, rows, h => by simp [RowsG]
  | o, n + 1, [], h => by simp [RowsG]
  | o, n + 1, x :: rows, h => by
    simp only [RowsG] at h
    simp only [List.take_succ_cons, RowsG]
    exact ⟨h.1, h.2.1, RowsG.take h.2.2⟩

theorem CellsW.get {w : World} {g : Gh} {b : Nat} : ∀ {o : Nat} {cs : List AV}, CellsW w g b o cs → ∀ (j : Nat) c, cs[j]? = some c →
    (∃ u, w.cell? ⟨b, o + j, none⟩ = some u ∧ RelA g c u ∧ c.one = true) ∧ w.frozen? ⟨b, o + j, none⟩ = false
  | o, [], _, j, c, h => by simp at h
  | o, x :: cs, h, j, c, hj => by
    simp only [CellsW] at h
    cases j with
    | zero => simp at hj; subst hj; exact ⟨h.1, h.2.1⟩
    | succ j =>
      simp at hj
      have := h.2.2.get j c hj
      rwa [show o + 1 + j = o + (j + 1) from by omega] at this

theorem CellsW.of_get {w : World} {g : Gh} {b : Nat} : ∀ {o : Nat} {cs : List AV}, (∀ (j : Nat) c, cs[j]? = some c →
    (∃ u, w.cell? ⟨b, o + j, none⟩ = some u ∧ RelA g c u ∧ c.one = true) ∧ w.frozen? ⟨b, o + j, none⟩ = false) → CellsW w g b o cs
  | o, [], _ => trivial
  | o, x :: cs, h => by
    refine ⟨by simpa using (h 0 x (by simp)).1, by simpa using (h 0 x (by simp)).2, CellsW.of_get fun j c hj => ?_⟩
    have := h (j + 1) c (by simpa using hj)
    rwa [show o + (j + 1) = o + 1 + j from by omega] at this

theorem RelL.get {G : Imm} : ∀ {cs : List CV} {vs : List Value}, RelL G cs vs → cs.length = vs.length ∧ ∀ (j : Nat) c, cs[j]? = some c → ∃ u, vs[j]? = some u ∧ Rel G c u
  | [], vs, h => by simp only [RelL] at h; subst h; simp
  | c :: cs, vs, h => by
    simp only [RelL] at h
    obtain ⟨u, us, rfl, hc, hr⟩ := h
    obtain ⟨hl, hg⟩ := hr.get
    refine ⟨by simp [hl], fun j c' hj => ?_⟩
    cases j with
    | zero => simp at hj; subst hj; exact ⟨u, by simp, hc⟩
    | succ j => simp at hj; simpa using hg j c' hj

theorem RelAL.get {g : Gh} : ∀ {cs : List AV} {vs : List Value}, RelAL g cs vs → cs.length = vs.length ∧ ∀ (j : Nat) c, cs[j]? = some c → ∃ u, vs[j]? = some u ∧ RelA g c u
  | [], vs, h => by simp only [RelAL] at h; subst h; simp
  | c :: cs, vs, h => by
    simp only [RelAL] at h
    obtain ⟨u, us, rfl, hc, hr⟩ := h
    obtain ⟨hl, hg⟩ := hr.get
    refine ⟨by simp [hl], fun j c' hj => ?_⟩
    cases j with
    | zero => simp at hj; subst hj; exact ⟨u, by simp, hc⟩
    | succ j => simp at hj; simpa using hg j c' hj

theorem RelL.of_get {G : Imm} : ∀ {cs : List CV} {vs : List Value}, cs.length = vs.length → (∀ (j : Nat) c u, cs[j]? = some c → vs[j]? = some u → Rel G c u) → RelL G cs vs
  | [], vs, h, _ => by simp only [RelL]; exact List.eq_nil_of_length_eq_zero (by simpa using h.symm)
  | c :: cs, [], h, _ => by simp at h
  | c :: cs, u :: us, h, hg => by
    simp only [RelL]
    exact ⟨u, us, rfl, hg 0 c u (by simp) (by simp), RelL.of_get (by simpa using h) fun j c' u' h1 h2 => hg (j + 1) c' u' (by simpa using h1) (by simpa using h2)⟩

theorem RelAL.of_get {g : Gh} : ∀ {cs : List AV} {vs : List Value}, cs.length = vs.length → (∀ (j : Nat) c u, cs[j]? = some c → vs[j]? = some u → RelA g c u) → RelAL g cs vs
  | [], vs, h, _ => by simp only [RelAL]; exact List.eq_nil_of_length_eq_zero (by simpa using h.symm)
  | c :: cs, [], h, _ => by simp at h
  | c :: cs, u :: us, h, hg => by
    simp only [RelAL]
    exact ⟨u, us, rfl, hg 0 c u (by simp) (by simp), RelAL.of_get (by simpa using h) fun j c' u' h1 h2 => hg (j + 1) c' u' (by simpa using h1) (by simpa using h2)⟩

end Go.Abs

namespace Go.Abs

def ofVal1 : Value → Option AV
  | .int k n => some (.c (.int k n))
  | .bool b => some (.c (.bool b))
  | .string s => some (.c (.str s.data.toList))
  | .pointer none => some (.c .nilp)
  | .slice none 0 0 => some (.own .exact 0 [])
  | _ => none

def ofVals : List Value → Option (List AV)
  | [] => some []
  | v :: vs => match ofVal1 v with
    | some a => match ofVals vs with
      | some l => some (a :: l)
      | none => none
    | none => none

def ofVal : Value → Option AV
  | .agg cs => match ofVals cs.toList with
    | some l => some (.agg l)
    | none => none
  | v => ofVal1 v

theorem ofVal1_ok (g : Gh) : ∀ {v : Value} {a : AV}, ofVal1 v = some a → RelA g a v ∧ a.one = true := by
  intro v a h
  unfold ofVal1 at h
  split at h <;> simp at h <;> subst h <;> simp [RelA, Rel, AV.one, CV.one]
  exact ⟨_, _, _, ⟨rfl, rfl, rfl⟩, rfl, Nat.le_refl _, .inl rfl, rfl⟩

theorem ofVals_ok (g : Gh) : ∀ {vs : List Value} {l : List AV}, ofVals vs = some l → RelAL g l vs ∧ l.all AV.one = true
  | [], l, h => by simp [ofVals] at h; subst h; simp [RelAL]
  | v :: vs, l, h => by
    simp only [ofVals] at h
    split at h
    · rename_i a ha
      split at h
      · rename_i l' hl
        simp at h; subst h
        obtain ⟨h1, h2⟩ := ofVal1_ok g ha
        obtain ⟨h3, h4⟩ := ofVals_ok g hl
        exact ⟨by simp only [RelAL]; exact ⟨v, vs, rfl, h1, h3⟩, by simp [h2]; simpa using h4⟩
      · simp at h
    · simp at h

theorem ofVal_ok (g : Gh) {v : Value} {a : AV} (h : ofVal v = some a) : RelA g a v := by
  unfold ofVal at h
  split at h
  · rename_i cs
    split at h
    · rename_i l hl
      simp at h; subst h
      obtain ⟨h1, h2⟩ := ofVals_ok g hl
      simp only [RelA]
      exact ⟨cs.toList, by simp, h1, h2⟩
    · simp at h
  · exact (ofVal1_ok g h).1

def aeval (X : Ctx) (env : List (Nat × AV)) : Operand → Option AV
  | .tmp t => getK t env
  | .const v => ofVal v
  | .global n => match X.glob n with
    | some v => some (.c v)
    | none => none
  | .func f => some (.c (.clo f []))

theorem aeval_ok {X : Ctx} {g : Gh} {env : List (Nat × AV)} {a : Act} (he : EnvOk g env a.tmps) (hg : GlobOk X g.G) {x : Operand} {v : AV} (h : aeval X env x = some v) : RelA g v (a.eval x) := by
  cases x with
  | tmp t => exact he t v h
  | const c => exact ofVal_ok g h
  | global n =>
    simp only [aeval] at h
    split at h
    · rename_i cv hcv; simp at h; subst h; simp only [RelA]; exact hg n cv hcv
    · simp at h
  | func f => simp [aeval] at h; subst h; simp only [RelA, Rel]; exact ⟨[], rfl, by simp [RelL]⟩

def nth {α : Type} : List α → Nat → Option α
  | [], _ => none
  | x :: _, 0 => some x
  | _ :: l, n + 1 => nth l n

theorem nth_eq {α : Type} : ∀ (l : List α) (n : Nat), nth l n = l[n]?
  | [], n => by simp [nth]
  | x :: l, 0 => by simp [nth]
  | x :: l, n + 1 => by simp [nth, nth_eq l n]

def apick (t : Bool) (a b : AV) : Option AV :=
  match a, b with
  | .c (.bool x), .c (.bool y) => some (.c (.bool (bif t then x else y)))
  | _, _ => match t with
    | true => some a
    | false => some b

def aload (i : TI) (cells : List AV) : Option AV :=
  match i.isAgg with
  | true => match takeN i.size cells with
    | some l => some (.agg l)
    | none => none
  | false => match cells with
    | c :: _ => some c
    | [] => none

def aloadC (i : TI) (cells : List CV) : Option AV :=
  match i.isAgg with
  | true => match takeN i.size cells with
    | some l => some (.c (.agg l))
    | none => none
  | false => match cells with
    | c :: _ => some (.c c)
    | [] => none

section
variable {P : Program} {X : Ctx} {w : World} {g : Gh}

theorem run_load_agg (hX : CtxOk P X) {t : Nat} {i : TI} (hi : X.ti t = some i) (ha : i.isAgg = true) (b o : Nat) (vs : List Value) (hl : vs.length = i.size)
    (h : ∀ j v, vs[j]? = some v → w.cell? ⟨b, o + j, none⟩ = some v) :
    (Instr.loadAt t (.pointer (some ⟨b, o, none⟩))).run P w = .ok (.agg vs.toArray) w := by
  have hc := run_loadCells_list (P := P) w ⟨b, o, none⟩ vs (fun j v hj => by rw [Addr.add_lit]; exact h j v hj)
  simp only [Instr.loadAt, Instr.sureAddr, loadVar, Sem.run_bind, Sem.run_pure, Result.andThen_ok, hX.run_isAgg hi, ha, if_true, hX.run_sizeOf hi]
  rw [← hl, hc]; rfl

theorem run_load_one (hX : CtxOk P X) {t : Nat} {i : TI} (hi : X.ti t = some i) (ha : i.isAgg = false) (b o : Nat) (v : Value)
    (h : w.cell? ⟨b, o, none⟩ = some v) :
    (Instr.loadAt t (.pointer (some ⟨b, o, none⟩))).run P w = .ok v w := by
  simp [Instr.loadAt, Instr.sureAddr, loadVar, hX.run_isAgg hi, ha, h]

theorem aload_ok (hX : CtxOk P X) {t : Nat} {i : TI} (hi : X.ti t = some i) {b o : Nat} {cells : List AV} (hc : CellsW w g b o cells) {v : AV} (h : aload i cells = some v) :
    ∃ u, (Instr.loadAt t (.pointer (some ⟨b, o, none⟩))).run P w = .ok u w ∧ RelA g v u := by
  unfold aload at h
  split at h
  · rename_i ha
    split at h
    · rename_i l hl
      simp at h; subst h
      obtain ⟨rfl, hn⟩ := takeN_eq hl
      -- the values of the cells
      have key : ∀ (n : Nat) (cs : List AV) (o : Nat), CellsW w g b o cs → n ≤ cs.length → ∃ vs : List Value, vs.length = n ∧ (∀ j v, vs[j]? = some v → w.cell? ⟨b, o + j, none⟩ = some v) ∧ RelAL g (cs.take n) vs ∧ (cs.take n).all AV.one = true := by
        intro n
        induction n with
        | zero => intro cs o _ _; exact ⟨[], rfl, by simp, by simp [RelAL], by simp⟩
        | succ n ih =>
          intro cs o hcs hle
          cases cs with
          | nil => simp at hle
          | cons x cs =>
            obtain ⟨⟨u, hu, hr, ho⟩, _, hrest⟩ := hcs
            obtain ⟨vs, h1, h2, h3, h4⟩ := ih cs (o + 1) hrest (by simpa using hle)
            refine ⟨u :: vs, by simp [h1], ?_, ?_, ?_⟩
            · intro j v hj
              cases j with
              | zero => simp at hj; subst hj; exact hu
              | succ j => simp at hj; have := h2 j v hj; rwa [show o + 1 + j = o + (j + 1) from by omega] at this
            · simp only [List.take_succ_cons, RelAL]; exact ⟨u, vs, rfl, hr, h3⟩
            · simp [ho]; simpa using h4
      obtain ⟨vs, h1, h2, h3, h4⟩ := key i.size cells o hc hn
      exact ⟨.agg vs.toArray, run_load_agg hX hi ha b o vs h1 h2, by simp only [RelA]; exact ⟨vs, rfl, h3, h4⟩⟩
    · simp at h
  · rename_i ha
    split at h
    · rename_i c rest
      simp at h; subst h
      obtain ⟨⟨u, hu, hr, _⟩, _, _⟩ := hc
      exact ⟨u, run_load_one hX hi ha b o u hu, hr⟩
    · simp at h

theorem aloadC_ok (hX : CtxOk P X) (himm : ∀ b o v, g.G b o = some v → w.cell? ⟨b, o, none⟩ = some v) {t : Nat} {i : TI} (hi : X.ti t = some i) {b o : Nat} {cells : List CV}
    (hc : CellsG g.G b o cells) {v : AV} (h : aloadC i cells = some v) :
    ∃ u, (Instr.loadAt t (.pointer (some ⟨b, o, none⟩))).run P w = .ok u w ∧ RelA g v u := by
  unfold aloadC at h
  split at h
  · rename_i ha
    split at h
    · rename_i l hl
      simp at h; subst h
      obtain ⟨rfl, hn⟩ := takeN_eq hl
      have key : ∀ (n : Nat) (cs : List CV) (o : Nat), CellsG g.G b o cs → n ≤ cs.length → ∃ vs : List Value, vs.length = n ∧ (∀ j v, vs[j]? = some v → w.cell? ⟨b, o + j, none⟩ = some v) ∧ RelL g.G (cs.take n) vs ∧ (cs.take n).all CV.one = true := by
        intro n
        induction n with
        | zero => intro cs o _ _; exact ⟨[], rfl, by simp, by simp [RelL], by simp⟩
        | succ n ih =>
          intro cs o hcs hle
          cases cs with
          | nil => simp at hle
          | cons x cs =>
            simp only [CellsG] at hcs
            obtain ⟨⟨u, hu, hr, ho⟩, hrest⟩ := hcs
            obtain ⟨vs, h1, h2, h3, h4⟩ := ih cs (o + 1) hrest (by simpa using hle)
            refine ⟨u :: vs, by simp [h1], ?_, ?_, ?_⟩
            · intro j v hj
              cases j with
              | zero => simp at hj; subst hj; exact himm _ _ _ hu
              | succ j => simp at hj; have := h2 j v hj; rwa [show o + 1 + j = o + (j + 1) from by omega] at this
            · simp only [List.take_succ_cons, RelL]; exact ⟨u, vs, rfl, hr, h3⟩
            · simp [ho]; simpa using h4
      obtain ⟨vs, h1, h2, h3, h4⟩ := key i.size cells o hc hn
      exact ⟨.agg vs.toArray, run_load_agg hX hi ha b o vs h1 h2, by simp only [RelA, Rel]; exact ⟨vs, rfl, h3, h4⟩⟩
    · simp at h
  · rename_i ha
    split at h
    · rename_i c rest
      simp at h; subst h
      simp only [CellsG] at hc
      obtain ⟨⟨u, hu, hr, _⟩, _⟩ := hc
      exact ⟨u, run_load_one hX hi ha b o u (himm _ _ _ hu), by simpa only [RelA] using hr⟩
    · simp at h
end

end Go.Abs

namespace Go.Abs

theorem toList_mk (l : List UInt8) : (ByteArray.mk l.toArray).toList = l := by rw [ByteArray.toList_eq]

def ibin (op : BinOp) (k : IntKind) (a b : Int) : Option CV :=
  match op with
  | .add => some (.int k (k.wrap (a + b)))
  | .sub => some (.int k (k.wrap (a - b)))
  | .mul => some (.int k (k.wrap (a * b)))
  | .quo => match b == 0 with
    | true => none
    | false => some (.int k (k.wrap (a.tdiv b)))
  | .rem => match b == 0 with
    | true => none
    | false => some (.int k (a.tmod b))
  | .and => some (.int k (k.wrap (BitVec.ofInt k.bits a &&& BitVec.ofInt k.bits b).toNat))
  | .or => some (.int k (k.wrap (BitVec.ofInt k.bits a ||| BitVec.ofInt k.bits b).toNat))
  | .xor => some (.int k (k.wrap (BitVec.ofInt k.bits a ^^^ BitVec.ofInt k.bits b).toNat))
  | .eql => some (.bool (a == b))
  | .neq => some (.bool (a != b))
  | .lss => some (.bool (decide (a < b)))
  | .leq => some (.bool (decide (a ≤ b)))
  | .gtr => some (.bool (decide (a > b)))
  | .geq => some (.bool (decide (a ≥ b)))
  | _ => none

def sameKind : IntKind → IntKind → Bool
  | .i64, .i64 | .u8, .u8 | .u64, .u64 | .i32, .i32 | .u32, .u32 => true
  | _, _ => false

theorem sameKind_eq {j k : IntKind} (h : sameKind j k = true) : j = k := by
  cases j <;> cases k <;> simp [sameKind] at h <;> rfl

def ishift (op : BinOp) (k : IntKind) (a b : Int) : Option CV :=
  match op, b with
  | .shl, .ofNat n => some (.int k (k.wrap (a * 2 ^ (min n k.bits))))
  | .shr, .ofNat n => some (.int k (a.fdiv (2 ^ (min n k.bits))))
  | _, _ => none

def sbin (op : BinOp) (a b : List UInt8) : Option CV :=
  match op with
  | .eql => some (.bool (a == b))
  | .neq => some (.bool (!(a == b)))
  | .lss => some (.bool (Op.bytesLess a b))
  | .gtr => some (.bool (!(Op.bytesLess a b || a == b)))
  | _ => none

def abin (k : TK) (op : BinOp) (x y : AV) : Option AV :=
  match x, y with
  | .c (.int j a), .c (.int j' b) =>
    match op with
    | .shl | .shr => match ishift op j a b with
      | some v => some (.c v)
      | none => none
    | _ => match sameKind j j' with
      | true => match ibin op j a b with
        | some v => some (.c v)
        | none => none
      | false => none
  | .c (.str a), .c (.str b) => match sbin op a b with
    | some v => some (.c v)
    | none => none
  | .c (.bool a), .c (.bool b) => match k, op with
    | .bool, .eql => some (.c (.bool (a == b)))
    | .bool, .neq => some (.c (.bool (!(a == b))))
    | _, _ => none
  | .c (.ip _), .c .nilp => match k, op with
    | .ptr _, .eql => some (.c (.bool false))
    | .ptr _, .neq => some (.c (.bool true))
    | _, _ => none
  | .c .nilp, .c .nilp => match k, op with
    | .ptr _, .eql => some (.c (.bool true))
    | .ptr _, .neq => some (.c (.bool false))
    | _, _ => none
  | _, _ => none

section
variable {P : Program} {X : Ctx} {w : World} {g : Gh}

theorem ibin_ok {op : BinOp} {k : IntKind} {a b : Int} {v : CV} (h : ibin op k a b = some v) (t : TypeId) (x y : Operand) :
    ∃ u, (do eqGuard op t x y (.int k a) (.int k b); binOp op t (.int k a) (.int k b)).run P w = .ok u w ∧ Rel g.G v u := by
  cases op <;> simp only [ibin] at h <;> simp only [eqGuard_at_int]
  case quo =>
    split at h
    · simp at h
    · rename_i hb; simp at h; subst h
      have : b ≠ 0 := by simpa using hb
      exact ⟨_, by simp [binOp, Op.intDiv, this]; rfl, by simp [Rel]⟩
  case rem =>
    split at h
    · simp at h
    · rename_i hb; simp at h; subst h
      have : b ≠ 0 := by simpa using hb
      exact ⟨_, by simp [binOp, Op.intDiv, this]; rfl, by simp [Rel]⟩
  all_goals first
    | (simp at h; done)
    | (simp at h; subst h; exact ⟨_, by simp [binOp, Op.intArith, Op.intBits, Op.intCmp]; rfl, by simp [Rel]⟩)

theorem ishift_ok {op : BinOp} {k k' : IntKind} {a b : Int} {v : CV} (h : ishift op k a b = some v) (t : TypeId) (x y : Operand) :
    ∃ u, (do eqGuard op t x y (.int k a) (.int k' b); binOp op t (.int k a) (.int k' b)).run P w = .ok u w ∧ Rel g.G v u := by
  unfold ishift at h
  split at h
  · rename_i n; simp at h; subst h
    refine ⟨.int k (k.wrap (a * 2 ^ (min n k.bits))), ?_, by simp [Rel]⟩
    simp [eqGuard_at_int, binOp, Op.shift, show ¬ ((n : Int) < 0) from by omega]
  · rename_i n; simp at h; subst h
    refine ⟨.int k (a.fdiv (2 ^ (min n k.bits))), ?_, by simp [Rel]⟩
    simp [eqGuard_at_int, binOp, Op.shift, show ¬ ((n : Int) < 0) from by omega]
  · simp at h

theorem sbin_ok {op : BinOp} {a b : List UInt8} {v : CV} (h : sbin op a b = some v) (t : TypeId) (x y : Operand) :
    ∃ u, (do eqGuard op t x y (.string ⟨a.toArray⟩) (.string ⟨b.toArray⟩); binOp op t (.string ⟨a.toArray⟩) (.string ⟨b.toArray⟩)).run P w = .ok u w ∧ Rel g.G v u := by
  cases op <;> simp only [sbin] at h <;> first
    | (simp at h; done)
    | (simp at h; subst h; exact ⟨_, by simp [eqGuard_at_string, binOp, Op.stringOp, toList_mk]; rfl, by simp [Rel]⟩)

theorem run_equalIn_bool1 {t : TypeId} (d : Nat) (h : (underlying t).run P w = .ok .bool w) (a b : Bool) : (Op.equalIn (d + 1) t (.bool a) (.bool b)).run P w = .ok (a == b) w := by
  simp [Op.equalIn, h]
theorem run_equalIn_ptr1 {t e : TypeId} (d : Nat) (h : (underlying t).run P w = .ok (.pointer e) w) (a : Addr) : (Op.equalIn (d + 1) t (.pointer (some a)) (.pointer none)).run P w = .ok false w := by
  simp [Op.equalIn, h]
theorem run_equalIn_nil1 {t e : TypeId} (d : Nat) (h : (underlying t).run P w = .ok (.pointer e) w) : (Op.equalIn (d + 1) t (.pointer none) (.pointer none)).run P w = .ok true w := by
  simp [Op.equalIn, h]
theorem run_equal_bool {t : TypeId} (h : (underlying t).run P w = .ok .bool w) (a b : Bool) : (Op.equal t (.bool a) (.bool b)).run P w = .ok (a == b) w :=
  run_equalIn_bool1 9999 h a b
theorem run_equal_ptr_nil {t e : TypeId} (h : (underlying t).run P w = .ok (.pointer e) w) (a : Addr) : (Op.equal t (.pointer (some a)) (.pointer none)).run P w = .ok false w :=
  run_equalIn_ptr1 9999 h a
theorem run_equal_nil_nil {t e : TypeId} (h : (underlying t).run P w = .ok (.pointer e) w) : (Op.equal t (.pointer none) (.pointer none)).run P w = .ok true w :=
  run_equalIn_nil1 9999 h
theorem binOp_eql_bool (t : TypeId) (a b : Bool) : binOp .eql t (.bool a) (.bool b) = (do pure (.bool (← Op.equal t (.bool a) (.bool b)))) := rfl
theorem binOp_neq_bool (t : TypeId) (a b : Bool) : binOp .neq t (.bool a) (.bool b) = (do pure (.bool (!(← Op.equal t (.bool a) (.bool b))))) := rfl
theorem binOp_eql_ptr (t : TypeId) (a b : Option Addr) : binOp .eql t (.pointer a) (.pointer b) = (do pure (.bool (← Op.equal t (.pointer a) (.pointer b)))) := rfl
theorem binOp_neq_ptr (t : TypeId) (a b : Option Addr) : binOp .neq t (.pointer a) (.pointer b) = (do pure (.bool (!(← Op.equal t (.pointer a) (.pointer b))))) := rfl

theorem abin_ok (hX : CtxOk P X) {t : Nat} {i : TI} (hi : X.ti t = some i) {op : BinOp} {x y : AV} {v : AV} (h : abin i.kind op x y = some v)
    {p q : Value} (hp : RelA g x p) (hq : RelA g y q) (ox oy : Operand) :
    ∃ u, (do eqGuard op t ox oy p q; binOp op t p q).run P w = .ok u w ∧ RelA g v u := by
  obtain ⟨d, hd1, hd2, hd3⟩ := hX.run_underlying (w := w) hi
  unfold abin at h
  split at h
  · rename_i j a j' b
    simp only [RelA, Rel] at hp hq; subst hp hq
    have hsh : ∀ (cv : CV), ishift op j a b = some cv → ∃ u, (do eqGuard op t ox oy (.int j a) (.int j' b); binOp op t (.int j a) (.int j' b)).run P w = .ok u w ∧ RelA g (.c cv) u := by
      intro cv hcv
      obtain ⟨u, h1, h2⟩ := ishift_ok (P := P) (w := w) (g := g) (k' := j') hcv t ox oy
      exact ⟨u, h1, by simpa only [RelA] using h2⟩
    split at h
    · split at h
      · rename_i cv hcv; simp at h; subst h; exact hsh _ hcv
      · simp at h
    · split at h
      · rename_i cv hcv; simp at h; subst h; exact hsh _ hcv
      · simp at h
    · split at h
      · rename_i hk
        have := sameKind_eq hk; subst this
        split at h
        · rename_i cv hcv; simp at h; subst h
          obtain ⟨u, h1, h2⟩ := ibin_ok (P := P) (w := w) (g := g) hcv t ox oy
          exact ⟨u, h1, by simpa only [RelA] using h2⟩
        · simp at h
      · simp at h
  · rename_i a b
    simp only [RelA, Rel] at hp hq; subst hp hq
    split at h
    · rename_i cv hcv; simp at h; subst h
      obtain ⟨u, h1, h2⟩ := sbin_ok (P := P) (w := w) (g := g) hcv t ox oy
      exact ⟨u, h1, by simpa only [RelA] using h2⟩
    · simp at h
  · rename_i a b
    simp only [RelA, Rel] at hp hq; subst hp hq
    split at h <;> simp at h <;> subst h <;> rename_i hk <;> rw [hk] at hd2 <;> simp only [KindOk] at hd2 <;> subst hd2
    · exact ⟨.bool (a == b), by simp [eqGuard_at_bool, binOp_eql_bool, binOp_neq_bool, run_equal_bool hd1], by simp [RelA, Rel]⟩
    · exact ⟨.bool (!(a == b)), by simp [eqGuard_at_bool, binOp_eql_bool, binOp_neq_bool, run_equal_bool hd1], by simp [RelA, Rel]⟩
  · rename_i cs
    simp only [RelA, Rel] at hp hq; subst hq
    obtain ⟨b, o, rfl, _⟩ := hp
    split at h <;> simp at h <;> subst h <;> rename_i hk <;> rw [hk] at hd2 <;> simp only [KindOk] at hd2 <;> subst hd2
    · exact ⟨.bool false, by simp [eqGuard_at_pointer, binOp_eql_ptr, binOp_neq_ptr, run_equal_ptr_nil hd1, run_equal_nil_nil hd1], by simp [RelA, Rel]⟩
    · exact ⟨.bool true, by simp [eqGuard_at_pointer, binOp_eql_ptr, binOp_neq_ptr, run_equal_ptr_nil hd1, run_equal_nil_nil hd1], by simp [RelA, Rel]⟩
  · simp only [RelA, Rel] at hp hq; subst hp hq
    split at h <;> simp at h <;> subst h <;> rename_i hk <;> rw [hk] at hd2 <;> simp only [KindOk] at hd2 <;> subst hd2
    · exact ⟨.bool true, by simp [eqGuard_at_pointer, binOp_eql_ptr, binOp_neq_ptr, run_equal_ptr_nil hd1, run_equal_nil_nil hd1], by simp [RelA, Rel]⟩
    · exact ⟨.bool false, by simp [eqGuard_at_pointer, binOp_eql_ptr, binOp_neq_ptr, run_equal_ptr_nil hd1, run_equal_nil_nil hd1], by simp [RelA, Rel]⟩
  · simp at h
end

end Go.Abs

namespace Go.Abs

/-- Closed cells as cells, written out. -/
def opened : List CV → Option (List AV)
  | [] => some []
  | c :: cs => match opened cs with
    | some l => some (.c c :: l)
    | none => none

theorem opened_eq : ∀ (cs : List CV), opened cs = some (cs.map AV.c)
  | [] => rfl
  | c :: cs => by simp [opened, opened_eq cs]

def cellsA : AV → Option (List AV)
  | .c (.agg cs) => opened cs
  | .c (.tup _) => none
  | .c .undef => none
  | .tup _ => none
  | .agg cs => some cs
  | a => some [a]

/-- A row of cells written over others, from a place on. -/
def writeAt : Nat → List AV → List AV → Option (List AV)
  | _, [], l => some l
  | 0, v :: vs, _ :: l => match writeAt 0 vs l with
    | some r => some (v :: r)
    | none => none
  | n + 1, vs, x :: l => match writeAt n vs l with
    | some r => some (x :: r)
    | none => none
  | _, _ :: _, [] => none

mutual
def close : AV → Option CV
  | .c v => some v
  | .own _ s rows => some (.sl s rows)
  | .ptr _ _ => none
  | .bsl .. => none
  | .any => none
  | .agg cs => match closeL cs with
    | some l => some (.agg l)
    | none => none
  | .tup cs => match closeL cs with
    | some l => some (.tup l)
    | none => none
def closeL : List AV → Option (List CV)
  | [] => some []
  | a :: l => match close a with
    | some v => match closeL l with
      | some r => some (v :: r)
      | none => none
    | none => none
end

def asNat : AV → Option Nat
  | .c (.int _ (.ofNat n)) => some n
  | _ => none

/-- A bound that may be left out. -/
def bound (ρ : Operand → Option AV) : Option Operand → Option (Option Nat)
  | none => some none
  | some x => match ρ x with
    | some a => match asNat a with
      | some n => some (some n)
      | none => none
    | none => none

/-- A slice cut at an upper bound; exact: its room is cut as well. -/
def cutTo (s : Nat) (rows : List CV) (lo : Option Nat) (h : Nat) (exact : Bool) : Option AV :=
  match takeN h rows with
  | some r1 => match (match lo with
      | some l => dropN l r1
      | none => some r1) with
    | some r => match exact with
      | true => some (.own .exact s r)
      | false => some (.c (.sl s r))
    | none => none
  | none => none

def aslice (k : TK) (es : Nat) (x : AV) (lo hi mx : Option Nat) : Option AV :=
  match k, x with
  | .str, .c (.str s) => match mx with
    | some _ => none
    | none => match (match hi with
        | some h => takeN h s
        | none => some s) with
      | some s1 => match lo with
        | some l => match dropN l s1 with
          | some r => some (.c (.str r))
          | none => none
        | none => some (.c (.str s1))
      | none => none
  | .slice _, .own o s rows => match Nat.beq s es with
    | false => none
    | true => match hi, mx with
    | none, none => match lo with
      | some l => match dropN l rows with
        | some r => some (.own o s r)
        | none => none
      | none => some (.own o s rows)
    | some h, none => cutTo s rows lo h false
    | some h, some m => match Nat.beq h m with
      | true => cutTo s rows lo h true
      | false => none
    | none, some _ => none
  | .slice _, .c (.sl s rows) => match Nat.beq s es with
    | false => none
    | true => match hi, mx with
    | none, none => match lo with
      | some l => match dropN l rows with
        | some r => some (.c (.sl s r))
        | none => none
      | none => some (.c (.sl s rows))
    | some h, none => cutTo s rows lo h false
    | some h, some m => match Nat.beq h m with
      | true => cutTo s rows lo h true
      | false => none
    | none, some _ => none
  | _, _ => none

def rowsOf : AV → Option (Nat × List CV)
  | .own _ s rows => some (s, rows)
  | .c (.sl s rows) => some (s, rows)
  | _ => none

/-- The parts of a struct written one by one over its zero. -/
def afill (X : Ctx) (ρ : Operand → Option AV) (fs : List (Nat × Nat)) : List (Nat × Operand) → List AV → Option (List AV)
  | [], cells => some cells
  | (i, x) :: rest, cells => match nth fs i, ρ x with
    | some (off, ft), some a => match X.ti ft, cellsA a with
      | some j, some vs => match Nat.beq vs.length j.size, writeAt off vs cells with
        | true, some cells' => afill X ρ fs rest cells'
        | _, _ => none
      | _, _ => none
    | _, _ => none

def alen (k : TK) (x : AV) : Option AV :=
  match k, x with
  | .slice _, .own _ _ rows => some (.c (.int .i64 rows.length))
  | .slice _, .bsl _ _ _ n => some (.c (.int .i64 n))
  | .slice _, .c (.sl _ rows) => some (.c (.int .i64 rows.length))
  | .str, .c (.str s) => some (.c (.int .i64 s.length))
  | .arr n _, _ => some (.c (.int .i64 n))
  | _, _ => none

def amin : List (Option AV) → Option AV
  | [some (.c (.int k a)), some (.c (.int _ b))] => some (.c (.int k (if b < a then b else a)))
  | _ => none

def amax : List (Option AV) → Option AV
  | [some (.c (.int k a)), some (.c (.int _ b))] => some (.c (.int k (if b > a then b else a)))
  | _ => none

def capsOf (ρ : Operand → Option AV) : List Operand → Option (List CV)
  | [] => some []
  | x :: l => match ρ x with
    | some a => match close a with
      | some v => match capsOf ρ l with
        | some r => some (v :: r)
        | none => none
      | none => none
    | none => none

def apure (X : Ctx) (boxes : List (Nat × List AV)) (ρ : Operand → Option AV) : Op → Option AV
  | .move x => ρ x
  | .assign x => ρ x
  | .pick c a b => match ρ c, ρ a, ρ b with
    | some (.c (.bool t)), some a, some b => apick t a b
    | _, _, _ => none
  | .load t x => match X.ti t, ρ x with
    | some i, some (.ptr key off) => match getK key boxes with
      | some cells => match dropN off cells with
        | some l => aload i l
        | none => none
      | none => none
    | some i, some (.c (.ip cs)) => aloadC i cs
    | _, _ => none
  | .nilCheck x => match ρ x with
    | some (.ptr k o) => some (.ptr k o)
    | some (.c (.ip cs)) => some (.c (.ip cs))
    | some (.c (.clo f cs)) => some (.c (.clo f cs))
    | _ => none
  | .binOp op t x y _ => match X.ti t, ρ x, ρ y with
    | some i, some a, some b => abin i.kind op a b
    | _, _, _ => none
  | .unOp op _ x => match op, ρ x with
    | .not, some (.c (.bool b)) => some (.c (.bool (!b)))
    | .neg, some (.c (.int k n)) => some (.c (.int k (k.wrap (0 - n))))
    | _, _ => none
  | .convert s d x => match X.ti s, X.ti d, ρ x with
    | some _, some j, some (.c (.int _ n)) => match j.kind with
      | .int k => some (.c (.int k (k.wrap n)))
      | _ => none
    | _, _, _ => none
  | .fieldAddr t x f => match X.ti t, ρ x with
    | some i, some a => match i.kind with
      | .struct fs => match nth fs f with
        | some (off, _) => match a with
          | .ptr k o => some (.ptr k (o + off))
          | .c (.ip cs) => match dropN off cs with
            | some r => some (.c (.ip r))
            | none => none
          | _ => none
        | none => none
      | _ => none
    | _, _ => none
  | .field t x f => match X.ti t, ρ x with
    | some i, some a => match i.kind with
      | .struct fs => match nth fs f with
        | some (off, ft) => match X.ti ft with
          | some j => match a with
            | .agg cs => match dropN off cs with
              | some r => aload j r
              | none => none
            | .c (.agg cs) => match dropN off cs with
              | some r => aloadC j r
              | none => none
            | _ => none
          | none => none
        | none => none
      | _ => none
    | _, _ => none
  | .indexAddr t x ix => match X.ti t, ρ x, ρ ix with
    | some i, some a, some n => match asNat n with
      | some n => match i.kind with
        | .slice e => match X.ti e, rowsOf a with
          | some j, some (s, rows) => match Nat.beq s j.size, nth rows n with
            | true, some r => some (.c (.ip r.cells))
            | _, _ => none
          | _, _ => none
        | .arr m e => match X.ti e, a, Nat.blt n m with
          | some j, .ptr k o, true => some (.ptr k (o + n * j.size))
          | _, _, _ => none
        | _ => none
      | none => none
    | _, _, _ => none
  | .index t x ix => match X.ti t, ρ x, ρ ix with
    | some i, some a, some n => match asNat n with
      | some n => match i.kind, a with
        | .str, .c (.str s) => match nth s n with
          | some b => some (.c (.int .u8 b.toNat))
          | none => none
        | _, _ => none
      | none => none
    | _, _, _ => none
  | .extract x n => match ρ x with
    | some (.tup cs) => nth cs n
    | some (.c (.tup cs)) => match nth cs n with
      | some v => some (.c v)
      | none => none
    | _ => none
  | .build t parts => match X.ti t with
    | some i => match i.kind, i.zero with
      | .struct fs, some (.agg z) => match afill X ρ fs parts.toList z with
        | some cells => some (.agg cells)
        | none => none
      | _, _ => none
    | none => none
  | .slice t x lo hi mx => match X.ti t, ρ x, bound ρ lo, bound ρ hi, bound ρ mx with
    | some i, some a, some lo, some hi, some mx => match i.kind with
      | .slice e => match X.ti e with
        | some j => aslice i.kind j.size a lo hi mx
        | none => none
      | _ => aslice i.kind 0 a lo hi mx
    | _, _, _, _, _ => none
  | .makeFunc (.func f) first caps => match first.toList, capsOf ρ caps.toList with
    | [], some l => some (.c (.clo f l))
    | _, _ => none
  | .call { callee := .builtin .len, args, argTypes } => match args.toList, argTypes.toList with
    | [x], [t] => match X.ti t, ρ x with
      | some i, some a => alen i.kind a
      | _, _ => none
    | _, _ => none
  | .call { callee := .builtin .min, args, argTypes := _ } => amin (args.toList.map ρ)
  | .call { callee := .builtin .max, args, argTypes := _ } => amax (args.toList.map ρ)
  | _ => none

end Go.Abs

namespace Go.Abs

section
variable {P : Program} {X : Ctx} {w : World} {g : Gh}

theorem bs_ext {s : List UInt8} : (ByteArray.mk s.toArray).size = s.length := by simp [ByteArray.size]

theorem extract_mk (s : List UInt8) (l h : Nat) : (ByteArray.mk s.toArray).extract l h = ⟨((s.take h).drop l).toArray⟩ := by
  apply ByteArray.ext
  simp [ByteArray.data_extract]
  rw [List.drop_take]

theorem run_bound_lit {y n : Nat} (h : n ≤ y) (k : IntKind) (c : BoundsCode) : (Instr.sliceBound (.int k (n : Int)) y c).run P w = .ok n w := by
  simp [Instr.sliceBound, asIntOf, h]

theorem asNat_val {a : AV} {n : Nat} (h : asNat a = some n) {u : Value} (hr : RelA g a u) : ∃ k, u = .int k (Int.ofNat n) := by
  unfold asNat at h
  split at h
  · simp at h; subst h; simp only [RelA, Rel] at hr; exact ⟨_, hr⟩
  · simp at h

/-- What a bound's operand holds. -/
def BoundIs (o : Option Value) : Option Nat → Prop
  | none => o = none
  | some n => ∃ k, o = some (.int k (Int.ofNat n))

theorem bound_ok {ρ : Operand → Option AV} {ev : Operand → Value} (hρ : ∀ x v, ρ x = some v → RelA g v (ev x)) {o : Option Operand} {r : Option Nat}
    (h : bound ρ o = some r) : BoundIs (o.map ev) r := by
  unfold bound at h
  split at h
  · simp at h; subst h; simp [BoundIs]
  · rename_i x
    split at h
    · rename_i a ha
      split at h
      · rename_i n hn
        simp at h; subst h
        obtain ⟨k, e⟩ := asNat_val hn (hρ x a ha)
        exact ⟨k, by simp [e]⟩
      · simp at h
    · simp at h

theorem run_sliceBounds_h {len cap h l : Nat} {lo hi : Option Value} (isS : Bool) (hh : BoundIs hi (some h)) (hl : BoundIs lo (some l)) (h1 : h ≤ cap) (h2 : l ≤ h) :
    (Instr.sliceBounds isS len cap lo hi none).run P w = .ok (l, h, cap) w := by
  obtain ⟨k, rfl⟩ := hh; obtain ⟨k', rfl⟩ := hl
  simp [Instr.sliceBounds, run_bound_lit h1, run_bound_lit h2]

theorem run_sliceBounds_h0 {len cap h : Nat} {lo hi : Option Value} (isS : Bool) (hh : BoundIs hi (some h)) (hl : BoundIs lo none) (h1 : h ≤ cap) :
    (Instr.sliceBounds isS len cap lo hi none).run P w = .ok (0, h, cap) w := by
  obtain ⟨k, rfl⟩ := hh; simp only [BoundIs] at hl; subst hl
  simp [Instr.sliceBounds, run_bound_lit h1]

theorem run_sliceBounds_l {len cap l : Nat} {lo hi : Option Value} (isS : Bool) (hh : BoundIs hi none) (hl : BoundIs lo (some l)) (h2 : l ≤ len) :
    (Instr.sliceBounds isS len cap lo hi none).run P w = .ok (l, len, cap) w := by
  obtain ⟨k, rfl⟩ := hl; simp only [BoundIs] at hh; subst hh
  simp [Instr.sliceBounds, run_bound_lit h2]

theorem run_sliceBounds_0 {len cap : Nat} {lo hi : Option Value} (isS : Bool) (hh : BoundIs hi none) (hl : BoundIs lo none) :
    (Instr.sliceBounds isS len cap lo hi none).run P w = .ok (0, len, cap) w := by
  simp only [BoundIs] at hh hl; subst hh hl
  simp [Instr.sliceBounds]

theorem run_sliceBounds_m {len cap h l m : Nat} {lo hi mx : Option Value} (isS : Bool) (hm : BoundIs mx (some m)) (hh : BoundIs hi (some h)) (hl : BoundIs lo (some l))
    (h0 : m ≤ cap) (h1 : h ≤ m) (h2 : l ≤ h) :
    (Instr.sliceBounds isS len cap lo hi mx).run P w = .ok (l, h, m) w := by
  obtain ⟨k, rfl⟩ := hh; obtain ⟨k', rfl⟩ := hl; obtain ⟨k'', rfl⟩ := hm
  simp [Instr.sliceBounds, run_bound_lit h0, run_bound_lit h1, run_bound_lit h2]

theorem run_sliceBounds_m0 {len cap h m : Nat} {lo hi mx : Option Value} (isS : Bool) (hm : BoundIs mx (some m)) (hh : BoundIs hi (some h)) (hl : BoundIs lo none)
    (h0 : m ≤ cap) (h1 : h ≤ m) :
    (Instr.sliceBounds isS len cap lo hi mx).run P w = .ok (0, h, m) w := by
  obtain ⟨k, rfl⟩ := hh; obtain ⟨k'', rfl⟩ := hm; simp only [BoundIs] at hl; subst hl
  simp [Instr.sliceBounds, run_bound_lit h0, run_bound_lit h1]

/-- What a slice of rows is behind a cut. -/
theorem RowsAt.cut {G : Imm} {s : Nat} {base : Option Addr} {rows : List CV} {len : Nat} (hl : len = rows.length) (h : RowsAt G s base rows) (l h' m : Nat) (h1 : l ≤ h') (h2 : h' ≤ len) (h3 : h' ≤ m) :
    RowsAt G s (if m = l then base else base.map (·.add (l * s))) ((rows.take h').drop l) := by
  rcases h with rfl | ⟨b, o, rfl, hr⟩
  · left; simp
  · by_cases e : m = l
    · left; simp; omega
    · right
      refine ⟨b, o + l * s, by simp [e, Addr.add_lit], ?_⟩
      exact (hr.take (n := h')).drop

theorem run_slice_slice (hX : CtxOk P X) {t e : Nat} {i j : TI} (hi : X.ti t = some i) (hk : i.kind = .slice e) (hj : X.ti e = some j) {base : Option Addr} {len cap : Nat} {lo hi' mx : Option Value}
    {l h m : Nat} (hb : ∀ w, (Instr.sliceBounds true len cap lo hi' mx).run P w = .ok (l, h, m) w) :
    (Instr.sliceAt t (.slice base len cap) lo hi' mx).run P w = .ok (.slice (if m = l then base else base.map (·.add (l * j.size))) (h - l) (m - l)) w := by
  obtain ⟨d, hd1, hd2, _⟩ := hX.run_underlying (w := w) hi
  rw [hk] at hd2; simp only [KindOk] at hd2; subst hd2
  simp [Instr.sliceAt, Instr.slice, hd1, hb, hX.run_sizeOf hj]

theorem run_slice_str (hX : CtxOk P X) {t : Nat} {i : TI} (hi : X.ti t = some i) (hk : i.kind = .str) {s : ByteArray} {lo hi' : Option Value}
    {l h m : Nat} (hb : ∀ w, (Instr.sliceBounds false s.size s.size lo hi' none).run P w = .ok (l, h, m) w) :
    (Instr.sliceAt t (.string s) lo hi' none).run P w = .ok (.string (s.extract l h)) w := by
  obtain ⟨d, hd1, hd2, _⟩ := hX.run_underlying (w := w) hi
  rw [hk] at hd2; simp only [KindOk] at hd2; subst hd2
  simp [Instr.sliceAt, Instr.slice, hd1, hb]

end
end Go.Abs

namespace Go.Abs

section
variable {P : Program} {X : Ctx} {w : World} {g : Gh}

/-- What a value of rows is: the address, the length, the room. -/
theorem rowsOf_val {a : AV} {s : Nat} {rows : List CV} (h : rowsOf a = some (s, rows)) {u : Value} (hr : RelA g a u) :
    ∃ base len cap, u = .slice base len cap ∧ len = rows.length ∧ len ≤ cap ∧ RowsAt g.G s base rows := by
  unfold rowsOf at h
  split at h
  · simp at h; obtain ⟨rfl, rfl⟩ := h
    simp only [RelA] at hr
    obtain ⟨base, len, cap, e, hl, hc, hr, _⟩ := hr
    exact ⟨base, len, cap, e, hl, hc, hr⟩
  · simp at h; obtain ⟨rfl, rfl⟩ := h
    simp only [RelA, Rel] at hr
    exact hr
  · simp at h

theorem OwnOk.drop {s : Nat} {base : Option Addr} {len cap l : Nat} : ∀ {k : Own}, OwnOk g s base len cap k → l ≤ len →
    OwnOk g s (if cap = l then base else base.map (·.add (l * s))) (len - l) (cap - l) k
  | .exact, h, _ => by simp only [OwnOk] at h ⊢; omega
  | .tok key n, h, hl => by
    simp only [OwnOk] at h ⊢
    obtain ⟨hw, reg, e, hn, hr⟩ := h
    refine ⟨hw, reg, e, hn, fun hh => ?_⟩
    rcases hr hh with hr | ⟨b, lo, hi, o, rfl, rfl, h1, h2, h3⟩
    · left; omega
    · by_cases hc : cap = l
      · left; omega
      · right
        refine ⟨b, lo, hi, o + l * s, rfl, by simp [hc, Addr.add_lit], ?_, ?_, by omega⟩
        · rw [h1]; rw [Nat.add_assoc, ← Nat.add_mul]; congr 2; omega
        · rw [h2]; rw [Nat.add_assoc, ← Nat.add_mul]; congr 2; omega

theorem cutTo_eq {s : Nat} {rows : List CV} {lo : Option Nat} {h : Nat} {ex : Bool} {v : AV} (e : cutTo s rows lo h ex = some v) :
    h ≤ rows.length ∧ lo.getD 0 ≤ h ∧ v = if ex then .own .exact s ((rows.take h).drop (lo.getD 0)) else .c (.sl s ((rows.take h).drop (lo.getD 0))) := by
  unfold cutTo at e
  split at e
  · rename_i r1 h1
    obtain ⟨rfl, hl⟩ := takeN_eq h1
    cases lo with
    | none =>
      simp only at e
      cases ex <;> simp at e <;> subst e <;> simp [hl]
    | some l =>
      simp only at e
      split at e
      · rename_i r h2
        obtain ⟨rfl, hl2⟩ := dropN_eq h2
        have : l ≤ h := by simp at hl2; omega
        cases ex <;> simp at e <;> subst e <;> simp [hl, this]
      · simp at e
  · simp at e

theorem aslice_ok (hX : CtxOk P X) {t : Nat} {i : TI} (hi : X.ti t = some i) {es : Nat} (hes : ∀ e, i.kind = .slice e → ∃ j, X.ti e = some j ∧ j.size = es)
    {x v : AV} {lo hi' mx : Option Nat} (h : aslice i.kind es x lo hi' mx = some v) {u : Value} (hu : RelA g x u)
    {vlo vhi vmx : Option Value} (hlo : BoundIs vlo lo) (hhi : BoundIs vhi hi') (hmx : BoundIs vmx mx) :
    ∃ r, (Instr.sliceAt t u vlo vhi vmx).run P w = .ok r w ∧ RelA g v r := by
  -- a cut at an upper bound
  have cut : ∀ {e : Nat} {rows : List CV} {base : Option Addr} {len cap : Nat} {hh : Nat} {ex : Bool}, i.kind = .slice e → len = rows.length → len ≤ cap → RowsAt g.G es base rows →
      hi' = some hh → (mx = if ex then some hh else none) → cutTo es rows lo hh ex = some v →
      ∃ r, (Instr.sliceAt t (.slice base len cap) vlo vhi vmx).run P w = .ok r w ∧ RelA g v r := by
    intro e rows base len cap hh ex hk hlen hcap hrows e1 e2 hcut
    obtain ⟨j, hj, hjs⟩ := hes e hk
    obtain ⟨c1, c2, c3⟩ := cutTo_eq hcut
    subst e1
    cases ex with
    | false =>
      subst e2
      simp only [BoundIs] at hmx; subst hmx
      have hb : ∀ w, (Instr.sliceBounds true len cap vlo vhi none).run P w = .ok (lo.getD 0, hh, cap) w := by
        intro w
        cases lo with
        | none => exact run_sliceBounds_h0 true hhi hlo (by omega)
        | some l => exact run_sliceBounds_h true hhi hlo (by omega) (by simpa using c2)
      refine ⟨_, run_slice_slice hX hi hk hj hb, ?_⟩
      rw [c3, hjs]; simp only [Bool.false_eq_true, if_false, RelA, Rel]
      exact ⟨_, _, _, rfl, by simp; omega, by omega, (RowsAt.cut hlen hrows (lo.getD 0) hh cap c2 (by omega) (by omega))⟩
    | true =>
      subst e2
      have hb : ∀ w, (Instr.sliceBounds true len cap vlo vhi vmx).run P w = .ok (lo.getD 0, hh, hh) w := by
        intro w
        cases lo with
        | none => exact run_sliceBounds_m0 true hmx hhi hlo (by omega) (by omega)
        | some l => exact run_sliceBounds_m true hmx hhi hlo (by omega) (by omega) (by simpa using c2)
      refine ⟨_, run_slice_slice hX hi hk hj hb, ?_⟩
      rw [c3, hjs]; simp only [RelA, if_true]
      exact ⟨_, _, _, rfl, by simp; omega, by omega, (RowsAt.cut hlen hrows (lo.getD 0) hh hh c2 (by omega) (by omega)), rfl⟩
  unfold aslice at h
  split at h
  · -- a string
    rename_i hk
    rename_i s
    simp only [RelA, Rel] at hu; subst hu
    split at h
    · simp at h
    · simp only [BoundIs] at hmx; subst hmx
      have fin : ∀ {l h' : Nat}, (∀ w, (Instr.sliceBounds false (ByteArray.mk s.toArray).size (ByteArray.mk s.toArray).size vlo vhi none).run P w = .ok (l, h', (ByteArray.mk s.toArray).size) w) →
          v = .c (.str ((s.take h').drop l)) → ∃ r, (Instr.sliceAt t (.string ⟨s.toArray⟩) vlo vhi none).run P w = .ok r w ∧ RelA g v r := by
        intro l h' hb e
        refine ⟨_, run_slice_str hX hi hk hb, ?_⟩
        rw [e, extract_mk]; simp [RelA, Rel]
      cases hi' with
      | none =>
        simp only at h
        cases lo with
        | none =>
          simp at h; subst h
          exact fin (fun w => run_sliceBounds_0 false hhi hlo) (by simp [bs_ext])
        | some l =>
          simp only at h
          split at h
          · rename_i r hr
            obtain ⟨rfl, hl⟩ := dropN_eq hr
            simp at h; subst h
            exact fin (fun w => run_sliceBounds_l false hhi hlo (by rw [bs_ext]; exact hl)) (by simp [bs_ext])
          · simp at h
      | some hh =>
        simp only at h
        split at h
        · rename_i s1 hs1
          obtain ⟨rfl, hl1⟩ := takeN_eq hs1
          cases lo with
          | none =>
            simp at h; subst h
            exact fin (fun w => run_sliceBounds_h0 false hhi hlo (by rw [bs_ext]; exact hl1)) (by simp)
          | some l =>
            simp only at h
            split at h
            · rename_i r hr
              obtain ⟨rfl, hl⟩ := dropN_eq hr
              simp at h; subst h
              exact fin (fun w => run_sliceBounds_h false hhi hlo (by rw [bs_ext]; exact hl1) (by simp at hl; omega)) (by simp)
            · simp at h
        · simp at h
  · -- an own slice
    rename_i e o s rows hk
    simp only [RelA] at hu
    obtain ⟨base, len, cap, rfl, hlen, hcap, hrows, hown⟩ := hu
    split at h
    · simp at h
    · rename_i hs
      have := beq_true hs; subst this
      obtain ⟨j, hj, hjs⟩ := hes e hk
      split at h
      · simp only [BoundIs] at hmx; subst hmx
        split at h
        · rename_i l
          split at h
          · rename_i r hr
            obtain ⟨rfl, hl⟩ := dropN_eq hr
            simp at h; subst h
            refine ⟨_, run_slice_slice hX hi hk hj (fun w => run_sliceBounds_l true hhi hlo (by omega)), ?_⟩
            rw [hjs]; simp only [RelA]
            refine ⟨_, _, _, rfl, by simp; omega, by omega, ?_, hown.drop (by omega)⟩
            have := RowsAt.cut hlen hrows l len cap (by omega) (Nat.le_refl _) hcap
            rwa [List.take_of_length_le (by omega)] at this
          · simp at h
        · simp at h; subst h
          refine ⟨_, run_slice_slice hX hi hk hj (fun w => run_sliceBounds_0 true hhi hlo), ?_⟩
          rw [hjs]; simp only [RelA]
          refine ⟨_, _, _, rfl, by simp; omega, by omega, ?_, hown.drop (by omega)⟩
          have := RowsAt.cut hlen hrows 0 len cap (by omega) (Nat.le_refl _) hcap
          rwa [List.take_of_length_le (by omega)] at this
      · exact cut hk hlen hcap hrows rfl rfl h
      · split at h
        · rename_i hb; have := beq_true hb; subst this
          exact cut (ex := true) hk hlen hcap hrows rfl rfl h
        · simp at h
      · simp at h
  · rename_i e s rows hk
    simp only [RelA, Rel] at hu
    obtain ⟨base, len, cap, rfl, hlen, hcap, hrows⟩ := hu
    split at h
    · simp at h
    · rename_i hs
      have := beq_true hs; subst this
      obtain ⟨j, hj, hjs⟩ := hes e hk
      split at h
      · simp only [BoundIs] at hmx; subst hmx
        split at h
        · rename_i l
          split at h
          · rename_i r hr
            obtain ⟨rfl, hl⟩ := dropN_eq hr
            simp at h; subst h
            refine ⟨_, run_slice_slice hX hi hk hj (fun w => run_sliceBounds_l true hhi hlo (by omega)), ?_⟩
            rw [hjs]; simp only [RelA, Rel]
            refine ⟨_, _, _, rfl, by simp; omega, by omega, ?_⟩
            have := RowsAt.cut hlen hrows l len cap (by omega) (Nat.le_refl _) hcap
            rwa [List.take_of_length_le (by omega)] at this
          · simp at h
        · simp at h; subst h
          refine ⟨_, run_slice_slice hX hi hk hj (fun w => run_sliceBounds_0 true hhi hlo), ?_⟩
          rw [hjs]; simp only [RelA, Rel]
          refine ⟨_, _, _, rfl, by simp; omega, by omega, ?_⟩
          have := RowsAt.cut hlen hrows 0 len cap (by omega) (Nat.le_refl _) hcap
          rwa [List.take_of_length_le (by omega)] at this
      · exact cut hk hlen hcap hrows rfl rfl h
      · split at h
        · rename_i hb; have := beq_true hb; subst this
          exact cut (ex := true) hk hlen hcap hrows rfl rfl h
        · simp at h
      · simp at h
  · simp at h
end
end Go.Abs

namespace Go.Abs

theorem writeAt_get : ∀ {off : Nat} {vs l r : List AV}, writeAt off vs l = some r →
    r.length = l.length ∧ off + vs.length ≤ l.length + (if vs = [] then off else 0) ∧ ∀ (j : Nat), r[j]? = if off ≤ j ∧ j < off + vs.length then vs[j - off]? else l[j]?
  | off, [], l, r, h => by
    cases off <;> simp [writeAt] at h <;> subst h <;> simp <;> intros <;> omega
  | 0, v :: vs, [], r, h => by simp [writeAt] at h
  | 0, v :: vs, x :: l, r, h => by
    simp only [writeAt] at h
    split at h
    · rename_i r' h'
      simp at h; subst h
      obtain ⟨h1, h2, h3⟩ := writeAt_get h'
      refine ⟨by simp [h1], ?_, ?_⟩
      · simp only [List.length_cons, reduceCtorEq, if_false]
        split at h2 <;> simp_all <;> omega
      · intro j
        cases j with
        | zero => simp
        | succ j =>
          have := h3 j
          simp only [List.getElem?_cons_succ, this]
          simp
    · simp at h
  | n + 1, v :: vs, [], r, h => by simp [writeAt] at h
  | n + 1, v :: vs, x :: l, r, h => by
    simp only [writeAt] at h
    split at h
    · rename_i r' h'
      simp at h; subst h
      obtain ⟨h1, h2, h3⟩ := writeAt_get h'
      refine ⟨by simp [h1], ?_, ?_⟩
      · simp at h2 ⊢; omega
      · intro j
        cases j with
        | zero => simp
        | succ j =>
          have := h3 j
          simp only [List.getElem?_cons_succ, this]
          by_cases hc : n ≤ j ∧ j < n + (v :: vs).length
          · rw [if_pos hc, if_pos (by omega)]; congr 1; omega
          · rw [if_neg hc, if_neg (by omega)]
    · simp at h

theorem writeAt_ne {off : Nat} {v : AV} {vs l r : List AV} (h : writeAt off (v :: vs) l = some r) : off + (v :: vs).length ≤ l.length := by
  have := (writeAt_get h).2.1; simpa using this

section
variable {P : Program} {X : Ctx} {w : World} {g : Gh}

/-- The cells of a value. -/
theorem cellsA_ok {a : AV} {vs : List AV} (h : cellsA a = some vs) {u : Value} (hr : RelA g a u) :
    RelAL g vs u.cells.toList ∧ vs.all AV.one = true := by
  have hmap : ∀ (cs : List CV) (us : List Value), RelL g.G cs us → cs.all CV.one = true → RelAL g (cs.map AV.c) us ∧ (cs.map AV.c).all AV.one = true := by
    intro cs
    induction cs with
    | nil => intro us h1 _; simp only [RelL] at h1; subst h1; simp [RelAL]
    | cons c cs ih =>
      intro us h1 h2
      simp only [RelL] at h1
      obtain ⟨u, us, rfl, hc, hr⟩ := h1
      simp at h2
      obtain ⟨h3, h4⟩ := ih us hr (by simpa using h2.2)
      exact ⟨by simp only [List.map_cons, RelAL]; exact ⟨u, us, rfl, by simpa only [RelA] using hc, h3⟩, by simp only [List.map_cons, List.all_cons, AV.one, h2.1, Bool.true_and]; exact h4⟩
  cases a with
  | c v =>
    have hone : ∀ (v : CV) (u : Value), v.one = true → Rel g.G v u → RelAL g [.c v] u.cells.toList ∧ ([AV.c v].all AV.one = true) := by
      intro v u ho hr
      have hc : u.cells.toList = [u] := by
        cases v <;> simp only [Rel] at hr <;> simp [CV.one] at ho
        case int => subst hr; rfl
        case bool => subst hr; rfl
        case str => subst hr; rfl
        case nilp => subst hr; rfl
        case sl => obtain ⟨_, _, _, rfl, _⟩ := hr; rfl
        case ip => obtain ⟨_, _, rfl, _⟩ := hr; rfl
        case clo => obtain ⟨_, rfl, _⟩ := hr; rfl
        case any =>
          cases u <;> first | rfl | (exact absurd rfl (hr.1 _))
        case abool => obtain ⟨_, rfl⟩ := hr; rfl
      rw [hc]
      exact ⟨by simp only [RelAL, RelA]; exact ⟨u, [], rfl, hr, rfl⟩, by simp [AV.one, ho]⟩
    simp only [RelA] at hr
    cases v <;> simp only [cellsA, opened_eq, Option.some.injEq, reduceCtorEq] at h
    case agg cs =>
      subst h
      simp only [Rel] at hr
      obtain ⟨us, rfl, h1, h2⟩ := hr
      have := hmap cs us h1 h2
      simpa [Value.cells] using this
    all_goals (subst h; exact hone _ _ rfl hr)
  | own k s rows =>
    simp [cellsA] at h; subst h
    have hr' := hr
    simp only [RelA] at hr'
    obtain ⟨base, len, cap, rfl, _⟩ := hr'
    refine ⟨?_, rfl⟩
    simp only [Value.cells, RelAL]; exact ⟨_, [], rfl, hr, rfl⟩
  | ptr key off =>
    simp [cellsA] at h; subst h
    have hr' := hr
    simp only [RelA] at hr'
    obtain ⟨b, _, rfl⟩ := hr'
    refine ⟨?_, rfl⟩
    simp only [Value.cells, RelAL]; exact ⟨_, [], rfl, hr, rfl⟩
  | bsl key off s n =>
    simp [cellsA] at h; subst h
    have hr' := hr
    simp only [RelA] at hr'
    obtain ⟨b, cap, o, _, rfl, _⟩ := hr'
    refine ⟨?_, rfl⟩
    simp only [Value.cells, RelAL]; exact ⟨_, [], rfl, hr, rfl⟩
  | any =>
    simp [cellsA] at h; subst h
    have hr' := hr
    simp only [RelA] at hr'
    have hc : u.cells.toList = [u] := by
      cases u <;> first | rfl | exact absurd rfl (hr'.1 _)
    rw [hc]
    refine ⟨?_, rfl⟩
    simp only [RelAL]; exact ⟨_, [], rfl, hr, rfl⟩
  | agg cs =>
    simp [cellsA] at h; subst h
    simp only [RelA] at hr
    obtain ⟨us, rfl, h1, h2⟩ := hr
    exact ⟨by simpa [Value.cells] using h1, h2⟩
  | tup cs => simp [cellsA] at h

theorem fold_set (off : Nat) : ∀ (l : List Value) (k : Nat) (cells : Array Value), off + k + l.length ≤ cells.size →
    ((l.zipIdx k).foldl (fun (cs : Array Value) (p : Value × Nat) => cs.setIfInBounds (off + p.2) p.1) cells).size = cells.size ∧
    ∀ j, ((l.zipIdx k).foldl (fun (cs : Array Value) (p : Value × Nat) => cs.setIfInBounds (off + p.2) p.1) cells)[j]? =
      if off + k ≤ j ∧ j < off + k + l.length then l[j - (off + k)]? else cells[j]?
  | [], k, cells, _ => by simp; intros; omega
  | v :: l, k, cells, h => by
    simp only [List.zipIdx_cons, List.foldl_cons]
    obtain ⟨h1, h2⟩ := fold_set off l (k + 1) (cells.setIfInBounds (off + k) v) (by simp at h ⊢; omega)
    refine ⟨by rw [h1]; simp, fun j => ?_⟩
    rw [h2]
    by_cases hc : off + (k + 1) ≤ j ∧ j < off + (k + 1) + l.length
    · rw [if_pos hc, if_pos (by simp; omega)]
      rw [show j - (off + k) = (j - (off + (k + 1))) + 1 from by omega, List.getElem?_cons_succ]
    · rw [if_neg hc]
      by_cases hj : j = off + k
      · subst hj
        rw [if_pos (by simp), Array.getElem?_setIfInBounds]
        simp at h ⊢; omega
      · rw [if_neg (by simp; omega), Array.getElem?_setIfInBounds, if_neg (by omega)]

theorem afill_ok (hX : CtxOk P X) {ρ : Operand → Option AV} {ev : Operand → Value} (hρ : ∀ x v, ρ x = some v → RelA g v (ev x)) {fs : List (Nat × Nat)} (place : Nat → Option (Nat × Nat))
    (hplace : ∀ i off ft j, nth fs i = some (off, ft) → X.ti ft = some j → place i = some (off, j.size)) :
    ∀ {parts : List (Nat × Operand)} {cells r : List AV} {vs : Array Value}, afill X ρ fs parts cells = some r → RelAL g cells vs.toList → cells.all AV.one = true →
      ∃ us, Instr.fill place vs (parts.map fun (i, x) => (i, ev x)) = some us ∧ RelAL g r us.toList ∧ r.all AV.one = true
  | [], cells, r, vs, h, hr, ho => by simp [afill] at h; subst h; exact ⟨vs, by simp [Instr.fill], hr, ho⟩
  | (i, x) :: rest, cells, r, vs, h, hr, ho => by
    simp only [afill] at h
    split at h
    · rename_i off ft a h1 h2
      split at h
      · rename_i j us h3 h4
        split at h
        · rename_i cells' h5 h6
          have hsz := beq_true h5
          obtain ⟨ha1, ha2⟩ := cellsA_ok h4 (hρ x a h2)
          have hlen : us.length = (ev x).cells.size := by rw [(RelAL.get ha1).1]; simp
          have hne : j.size ≠ 0 := by obtain ⟨_, _, _, _, _, _, hh⟩ := hX.ti ft j h3; exact hh
          obtain ⟨c1, c2⟩ := RelAL.get hr
          obtain ⟨w1, w2, w3⟩ := writeAt_get h6
          have hwb : off + us.length ≤ cells.length := by
            cases us with
            | nil => simp at hsz; omega
            | cons u us => exact writeAt_ne h6
          have hvs : cells.length = vs.size := by rw [c1]; simp
          obtain ⟨f1, f2⟩ := fold_set off (ev x).cells.toList 0 vs (by simp; omega)
          have hf : Instr.fill place vs (((i, x) :: rest).map fun (i, x) => (i, ev x)) =
              Instr.fill place ((ev x).cells.zipIdx.foldl (fun cs (c, j) => cs.setIfInBounds (off + j) c) vs) (rest.map fun (i, x) => (i, ev x)) := by
            simp only [List.map_cons, Instr.fill, hplace i off ft j h1 h3]
            rw [if_neg]
            simp; omega
          have hfold : (ev x).cells.zipIdx.foldl (fun cs (c, j) => cs.setIfInBounds (off + j) c) vs =
              ((ev x).cells.toList.zipIdx 0).foldl (fun (cs : Array Value) (p : Value × Nat) => cs.setIfInBounds (off + p.2) p.1) vs := by
            rw [← Array.foldl_toList]; simp
          rw [hf, hfold]
          obtain ⟨a1, a2⟩ := RelAL.get ha1
          apply afill_ok hX hρ place hplace h
          · apply RelAL.of_get
            · rw [w1]; simp [f1, hvs]
            · intro k c u hk hu
              rw [w3] at hk
              simp only [Array.getElem?_toList, f2] at hu
              by_cases hc : off ≤ k ∧ k < off + us.length
              · rw [if_pos hc] at hk
                rw [if_pos (by simp; omega)] at hu
                obtain ⟨u', e1, e2⟩ := a2 _ _ hk
                simp at hu
                rw [show k - off = k - (off + 0) from by omega] at e1
                simp at e1
                rw [hu] at e1; simp at e1; subst e1; exact e2
              · rw [if_neg hc] at hk
                rw [if_neg (by simp; omega)] at hu
                obtain ⟨u', e1, e2⟩ := c2 _ _ hk
                simp at e1; rw [hu] at e1; simp at e1; subst e1; exact e2
          · rw [List.all_eq_true] at ho ha2 ⊢
            intro y hy
            obtain ⟨k, hk⟩ := List.getElem?_of_mem hy
            rw [w3] at hk
            split at hk
            · exact ha2 y (List.mem_of_getElem? hk)
            · exact ho y (List.mem_of_getElem? hk)
        · simp at h
      · simp at h
    · simp at h
end
end Go.Abs

namespace Go.Abs

section
variable {P : Program} {X : Ctx} {w : World} {g : Gh}

theorem close_ok : (∀ (a : AV) (v : CV) (u : Value), close a = some v → RelA g a u → Rel g.G v u ∧ (a.one = true → v.one = true)) := by
  intro a
  refine AV.rec (motive_1 := fun a => ∀ (v : CV) (u : Value), close a = some v → RelA g a u → Rel g.G v u ∧ (a.one = true → v.one = true))
    (motive_2 := fun l => ∀ (vs : List CV) (us : List Value), closeL l = some vs → RelAL g l us → RelL g.G vs us ∧ (l.all AV.one = true → vs.all CV.one = true) ∧ vs.length = l.length) ?_ ?_ ?_ ?_ ?_ ?_ ?_ ?_ ?_ a
  · intro v w' u h hr; simp [close] at h; subst h; exact ⟨by simpa only [RelA] using hr, id⟩
  · intro k s rows v u h hr
    simp [close] at h; subst h
    simp only [RelA] at hr
    obtain ⟨base, len, cap, rfl, h1, h2, h3, _⟩ := hr
    exact ⟨by simp only [Rel]; exact ⟨base, len, cap, rfl, h1, h2, h3⟩, fun _ => rfl⟩
  · intro key off v u h; simp [close] at h
  · intro key off s n v u h; simp [close] at h
  · intro v u h; simp [close] at h
  · intro cs ih v u h hr
    simp only [close] at h
    split at h
    · rename_i l hl
      simp at h; subst h
      simp only [RelA] at hr
      obtain ⟨us, rfl, h1, h2⟩ := hr
      obtain ⟨i1, i2, _⟩ := ih l us hl h1
      exact ⟨by simp only [Rel]; exact ⟨us, rfl, i1, i2 h2⟩, fun h => by simp [AV.one] at h⟩
    · simp at h
  · intro cs ih v u h hr
    simp only [close] at h
    split at h
    · rename_i l hl
      simp at h; subst h
      simp only [RelA] at hr
      obtain ⟨us, rfl, h1, h2⟩ := hr
      obtain ⟨i1, i2, i3⟩ := ih l us hl h1
      exact ⟨by simp only [Rel]; exact ⟨us, rfl, i1, by omega⟩, fun h => by simp [AV.one] at h⟩
    · simp at h
  · intro vs us h hr; simp [closeL] at h; subst h; simp only [RelAL] at hr; subst hr; simp [RelL]
  · intro a l iha ihl vs us h hr
    simp only [closeL] at h
    split at h
    · rename_i v hv
      split at h
      · rename_i r hr'
        simp at h; subst h
        simp only [RelAL] at hr
        obtain ⟨u, us, rfl, h1, h2⟩ := hr
        obtain ⟨a1, a2⟩ := iha v u hv h1
        obtain ⟨b1, b2, b3⟩ := ihl r us hr' h2
        refine ⟨by simp only [RelL]; exact ⟨u, us, rfl, a1, b1⟩, fun h => ?_, by simp [b3]⟩
        simp only [List.all_cons, Bool.and_eq_true] at h ⊢
        exact ⟨a2 h.1, b2 h.2⟩
      · simp at h
    · simp at h

theorem capsOf_ok {ρ : Operand → Option AV} {ev : Operand → Value} (hρ : ∀ x v, ρ x = some v → RelA g v (ev x)) :
    ∀ {l : List Operand} {r : List CV}, capsOf ρ l = some r → RelL g.G r (l.map ev)
  | [], r, h => by simp [capsOf] at h; subst h; simp [RelL]
  | x :: l, r, h => by
    simp only [capsOf] at h
    split at h
    · rename_i a ha
      split at h
      · rename_i v hv
        split at h
        · rename_i r' hr'
          simp at h; subst h
          simp only [List.map_cons, RelL]
          exact ⟨_, _, rfl, (close_ok a v _ hv (hρ x a ha)).1, capsOf_ok hρ hr'⟩
        · simp at h
      · simp at h
    · simp at h

theorem drop_head {α : Type} {cs rest : List α} {off : Nat} {c : α} (h : cs.drop off = c :: rest) : cs[off]? = some c := by
  have := congrArg (fun l => l[0]?) h
  simpa using this

theorem run_part (hX : CtxOk P X) {t : Nat} {i : TI} (hi : X.ti t = some i) {vs : Array Value} {off : Nat} {r : AV}
    (h : (∃ cs rest, RelAL g cs vs.toList ∧ cs.all AV.one = true ∧ dropN off cs = some rest ∧ aload i rest = some r) ∨
      (∃ cs rest, RelL g.G cs vs.toList ∧ cs.all CV.one = true ∧ dropN off cs = some rest ∧ aloadC i rest = some r)) :
    ∃ u, (part t vs off).run P w = .ok u w ∧ RelA g r u := by
  have hsz : i.size ≠ 0 := by obtain ⟨_, _, _, _, _, _, hh⟩ := hX.ti t i hi; exact hh
  rcases h with ⟨cs, rest, h1, h2, h3, h4⟩ | ⟨cs, rest, h1, h2, h3, h4⟩
  · obtain ⟨rfl, hl⟩ := dropN_eq h3
    obtain ⟨c1, c2⟩ := RelAL.get h1
    unfold aload at h4
    cases ha : i.isAgg <;> rw [ha] at h4 <;> simp only at h4
    · split at h4
      · rename_i c rest' he
        simp at h4; subst h4
        have hg : cs[off]? = some c := drop_head he
        obtain ⟨u, e1, e2⟩ := c2 off c hg
        refine ⟨u, ?_, e2⟩
        have : vs[off]? = some u := by simpa using e1
        simp [part, hX.run_isAgg hi, ha, this]
      · simp at h4
    · split at h4
      · rename_i l hl'
        simp at h4; subst h4
        obtain ⟨rfl, hn⟩ := takeN_eq hl'
        refine ⟨.agg (vs.extract off (off + i.size)), by simp [part, hX.run_isAgg hi, ha, hX.run_sizeOf hi], ?_⟩
        simp only [RelA]
        refine ⟨(vs.extract off (off + i.size)).toList, rfl, ?_, ?_⟩
        · apply RelAL.of_get
          · simp at hn hl c1 ⊢; omega
          · intro j c u hj hu
            simp only [List.getElem?_take, List.getElem?_drop] at hj
            split at hj
            · obtain ⟨u', e1, e2⟩ := c2 _ _ hj
              simp only [Array.toList_extract, List.extract_eq_take_drop, List.getElem?_take, List.getElem?_drop] at hu
              split at hu
              · rw [e1] at hu; simp at hu; subst hu; exact e2
              · simp at hu
            · simp at hj
        · rw [List.all_eq_true] at h2 ⊢
          intro y hy
          exact h2 y (List.mem_of_mem_drop (List.mem_of_mem_take hy))
      · simp at h4
  · obtain ⟨rfl, hl⟩ := dropN_eq h3
    obtain ⟨c1, c2⟩ := RelL.get h1
    unfold aloadC at h4
    cases ha : i.isAgg <;> rw [ha] at h4 <;> simp only at h4
    · split at h4
      · rename_i c rest' he
        simp at h4; subst h4
        have hg : cs[off]? = some c := drop_head he
        obtain ⟨u, e1, e2⟩ := c2 off c hg
        refine ⟨u, ?_, by simpa only [RelA] using e2⟩
        have : vs[off]? = some u := by simpa using e1
        simp [part, hX.run_isAgg hi, ha, this]
      · simp at h4
    · split at h4
      · rename_i l hl'
        simp at h4; subst h4
        obtain ⟨rfl, hn⟩ := takeN_eq hl'
        refine ⟨.agg (vs.extract off (off + i.size)), by simp [part, hX.run_isAgg hi, ha, hX.run_sizeOf hi], ?_⟩
        simp only [RelA, Rel]
        refine ⟨(vs.extract off (off + i.size)).toList, rfl, ?_, ?_⟩
        · apply RelL.of_get
          · simp at hn hl c1 ⊢; omega
          · intro j c u hj hu
            simp only [List.getElem?_take, List.getElem?_drop] at hj
            split at hj
            · obtain ⟨u', e1, e2⟩ := c2 _ _ hj
              simp only [Array.toList_extract, List.extract_eq_take_drop, List.getElem?_take, List.getElem?_drop] at hu
              split at hu
              · rw [e1] at hu; simp at hu; subst hu; exact e2
              · simp at hu
            · simp at hj
        · rw [List.all_eq_true] at h2 ⊢
          intro y hy
          exact h2 y (List.mem_of_mem_drop (List.mem_of_mem_take hy))
      · simp at h4
end
end Go.Abs

namespace Go.Abs

section
variable {P : Program} {X : Ctx} {w : World} {g : Gh}

theorem run_fieldAt (hX : CtxOk P X) {t : Nat} {i : TI} (hi : X.ti t = some i) {fs : List (Nat × Nat)} (hk : i.kind = .struct fs) {f off ft : Nat} (hf : nth fs f = some (off, ft)) (b o : Nat) :
    (Instr.fieldAt t (.pointer (some ⟨b, o, none⟩)) f).run P w = .ok (.pointer (some ⟨b, o + off, none⟩)) w := by
  obtain ⟨d, hd1, hd2, _⟩ := hX.run_underlying (w := w) hi
  rw [hk] at hd2; simp only [KindOk] at hd2
  obtain ⟨fields, rfl, h1, h2⟩ := hd2
  rw [nth_eq, ← h1] at hf
  simp at hf
  obtain ⟨fl, e1, e2, e3⟩ := hf
  have hmem : fl ∈ fields.toList := by rw [Array.mem_toList_iff]; exact Array.mem_of_getElem? e1
  obtain ⟨inf, e4, e5⟩ := h2 fl hmem
  simp [Instr.fieldAt, hd1, e1, Instr.sureAddr, fieldPlace, sizeOf, typeInfo, e4, e5, e2, Addr.add_lit]

theorem run_field (hX : CtxOk P X) {t : Nat} {i : TI} (hi : X.ti t = some i) {fs : List (Nat × Nat)} (hk : i.kind = .struct fs) {f off ft : Nat} (hf : nth fs f = some (off, ft)) (vs : Array Value) :
    (Instr.field t (.agg vs) f).run P w = (part ft vs off).run P w := by
  obtain ⟨d, hd1, hd2, _⟩ := hX.run_underlying (w := w) hi
  rw [hk] at hd2; simp only [KindOk] at hd2
  obtain ⟨fields, rfl, h1, h2⟩ := hd2
  rw [nth_eq, ← h1] at hf
  simp at hf
  obtain ⟨fl, e1, e2, e3⟩ := hf
  simp [Instr.field, hd1, e1, asAgg, e2, e3]

theorem run_mapM_places (hX : CtxOk P X) : ∀ (fl : List Field), (∀ f ∈ fl, ∃ inf, P.info? f.type = some inf ∧ inf.size ≠ 0) →
    ∃ ps : List (Nat × Nat), (fl.mapM (m := Sem) fun f => do pure (f.offset, ← sizeOf f.type)).run P w = .ok ps w ∧ ps.length = fl.length ∧
      ∀ (k : Nat) (f : Field), fl[k]? = some f → ∃ inf, P.info? f.type = some inf ∧ ps[k]? = some (f.offset, inf.size)
  | [], _ => ⟨[], by simp, rfl, by simp⟩
  | f :: fl, h => by
    obtain ⟨inf, e1, e2⟩ := h f (by simp)
    obtain ⟨ps, h1, h2, h3⟩ := run_mapM_places hX fl (fun f hf => h f (by simp [hf]))
    refine ⟨(f.offset, inf.size) :: ps, ?_, by simp [h2], ?_⟩
    · simp only [List.mapM_cons, Sem.run_bind, sizeOf, typeInfo, run_program, Result.andThen_ok, e1, Sem.run_pure]
      simp only [sizeOf, typeInfo] at h1
      rw [h1]; rfl
    · intro k f' hk
      cases k with
      | zero => simp at hk; subst hk; exact ⟨inf, e1, by simp⟩
      | succ k => simp at hk; simpa using h3 k f' hk

theorem run_build (hX : CtxOk P X) {t : Nat} {i : TI} (hi : X.ti t = some i) {fs : List (Nat × Nat)} (hk : i.kind = .struct fs) {z r : List AV} (hz : i.zero = some (.agg z))
    {ρ : Operand → Option AV} {ev : Operand → Value} (hρ : ∀ x v, ρ x = some v → RelA g v (ev x)) {parts : Array (Nat × Operand)}
    (h : afill X ρ fs parts.toList z = some r) :
    ∃ u, (Instr.build t (parts.map fun (i, x) => (i, ev x))).run P w = .ok u w ∧ RelA g (.agg r) u := by
  obtain ⟨d, hd1, hd2, _⟩ := hX.run_underlying (w := w) hi
  rw [hk] at hd2; simp only [KindOk] at hd2
  obtain ⟨fields, rfl, h1, h2⟩ := hd2
  obtain ⟨zv, z1, z2, z3⟩ := hX.run_zeroValue (w := w) hi hz
  have z4 := z2 g
  simp only [RelA] at z4
  obtain ⟨zs, rfl, z5, z6⟩ := z4
  obtain ⟨ps, p1, p2, p3⟩ := run_mapM_places (P := P) (w := w) hX fields.toList h2
  obtain ⟨us, f1, f2, f3⟩ := afill_ok hX hρ (fun (i : Nat) => ps[i]?) (by
    intro i off ft j e1 e2
    rw [nth_eq, ← h1] at e1
    simp at e1
    obtain ⟨fl, e3, e4, e5⟩ := e1
    obtain ⟨inf, e6, e7⟩ := p3 i fl (by simpa using e3)
    obtain ⟨inf', e8, e9, _⟩ := hX.ti ft j e2
    rw [e5] at e6; rw [e6] at e8; simp at e8; subst e8
    simp [e7, e4, e9]) (vs := zs.toArray) h (by simpa using z5) z6
  refine ⟨.agg us, ?_, by simp only [RelA]; exact ⟨us.toList, by simp, f2, f3⟩⟩
  simp only [Instr.build, Sem.run_bind, z1, Result.andThen_ok, hd1, Value.cells]
  rw [show (fields.mapM (m := Sem) fun f => do pure (f.offset, ← sizeOf f.type)) = (fields.toList.mapM fun f => do pure (f.offset, ← sizeOf f.type)) >>= fun l => pure l.toArray from by
    rw [Array.mapM_eq_mapM_toList]; rfl]
  simp only [Sem.run_bind, p1, Result.andThen_ok, Sem.run_pure]
  have : (fun (i : Nat) => (ps.toArray[i]? : Option (Nat × Nat))) = fun (i : Nat) => ps[i]? := by funext i; simp
  rw [this]
  simp only [Array.toList_map]
  rw [f1]; rfl

theorem rel_int_val {g : Gh} {k : IntKind} {n : Int} {u : Value} (h : RelA g (.c (.int k n)) u) : u = .int k n := by simpa only [RelA, Rel] using h

theorem alen_ok (hX : CtxOk P X) {t : Nat} {i : TI} (hi : X.ti t = some i) {a v : AV} (h : alen i.kind a = some v) {u : Value} (hu : RelA g a u) (ty : TypeId) :
    ∃ r, (Builtin.len_ #[t] ty #[u]).run P w = .ok r w ∧ RelA g v r := by
  obtain ⟨d, hd1, hd2, _⟩ := hX.run_underlying (w := w) hi
  unfold alen at h
  split at h
  · rename_i e o s rows hk
    rw [hk] at hd2; simp only [KindOk] at hd2; subst hd2
    simp at h; subst h
    simp only [RelA] at hu
    obtain ⟨base, len, cap, rfl, hl, _⟩ := hu
    exact ⟨.int .i64 len, by simp [Builtin.len_, hd1, goInt], by simp [RelA, Rel, hl]⟩
  · rename_i e key off s n hk
    rw [hk] at hd2; simp only [KindOk] at hd2; subst hd2
    simp at h; subst h
    simp only [RelA] at hu
    obtain ⟨b, cap, o, _, rfl, _⟩ := hu
    exact ⟨.int .i64 n, by simp [Builtin.len_, hd1, goInt], by simp [RelA, Rel]⟩
  · rename_i e s rows hk
    rw [hk] at hd2; simp only [KindOk] at hd2; subst hd2
    simp at h; subst h
    simp only [RelA, Rel] at hu
    obtain ⟨base, len, cap, rfl, hl, _⟩ := hu
    exact ⟨.int .i64 len, by simp [Builtin.len_, hd1, goInt], by simp [RelA, Rel, hl]⟩
  · rename_i s hk
    rw [hk] at hd2; simp only [KindOk] at hd2; subst hd2
    simp at h; subst h
    simp only [RelA, Rel] at hu; subst hu
    exact ⟨.int .i64 s.length, by simp [Builtin.len_, hd1, goInt, bs_ext], by simp [RelA, Rel]⟩
  · rename_i n e hk
    rw [hk] at hd2; simp only [KindOk] at hd2; subst hd2
    simp at h; subst h
    exact ⟨.int .i64 n, by cases u <;> simp [Builtin.len_, hd1, goInt], by simp [RelA, Rel]⟩
  · simp at h

end
end Go.Abs

namespace Go.Abs

section
variable {P : Program} {X : Ctx} {w : World} {g : Gh}

theorem apure_ok (hX : CtxOk P X) {boxes : List (Nat × List AV)}
    (himm : ∀ b o v, g.G b o = some v → w.cell? ⟨b, o, none⟩ = some v)
    (hbox : ∀ k cs, getK k boxes = some cs → ∃ b, g.box k = some b ∧ CellsW w g b 0 cs)
    {ρ : Operand → Option AV} {ev : Operand → Value} (hρ : ∀ x v, ρ x = some v → RelA g v (ev x)) {o : Oper} {v : AV} (h : apure X boxes ρ o.op = some v) :
    ∃ u, (execOp ev o).run P w = .ok (.value u) w ∧ RelA g v u := by
  have fin : ∀ {s : Sem Value}, (∃ u, s.run P w = .ok u w ∧ RelA g v u) → ∃ u, (do pure (Next.value (← s)) : Sem Next).run P w = .ok (.value u) w ∧ RelA g v u := by
    rintro s ⟨u, h1, h2⟩
    exact ⟨u, by simp [h1], h2⟩
  have hdrop : ∀ {b n : Nat} {cs r : List AV}, CellsW w g b 0 cs → dropN n cs = some r → CellsW w g b n r := by
    intro b n cs r h1 h2
    obtain ⟨rfl, _⟩ := dropN_eq h2
    apply CellsW.of_get
    intro j c hj
    rw [List.getElem?_drop] at hj
    simpa using h1.get (n + j) c hj
  obtain ⟨dst, op, type, pos, after, guard⟩ := o
  simp only at h
  unfold apure at h
  split at h
  · rename_i x; exact ⟨ev x, by simp [execOp], hρ x v h⟩
  · rename_i x; exact ⟨ev x, by simp [execOp], hρ x v h⟩
  · rename_i c a b
    split at h
    · rename_i t av bv h1 h2 h3
      have hc := hρ c _ h1; simp only [RelA, Rel] at hc
      have ha := hρ a _ h2; have hb := hρ b _ h3
      refine ⟨if t then ev a else ev b, by simp [execOp, hc, asBool], ?_⟩
      unfold apick at h
      split at h
      · rename_i x y
        simp at h; subst h
        simp only [RelA, Rel] at ha hb ⊢
        cases t <;> simp [ha, hb]
      · split at h <;> simp at h <;> subst h
        · simpa using ha
        · simpa using hb
    · simp at h
  · rename_i t x
    split at h
    · rename_i i key off h1 h2
      have hx := hρ x _ h2; simp only [RelA] at hx
      obtain ⟨b, hb, hx⟩ := hx
      split at h
      · rename_i cells hcells
        split at h
        · rename_i l hl
          obtain ⟨b', hb', hcw⟩ := hbox key cells hcells
          rw [hb] at hb'; simp at hb'; subst hb'
          simp only [execOp]
          rw [hx]
          exact fin (aload_ok hX h1 (hdrop hcw hl) h)
        · simp at h
      · simp at h
    · rename_i i cs h1 h2
      have hx := hρ x _ h2; simp only [RelA, Rel] at hx
      obtain ⟨b, o, hx, hc⟩ := hx
      simp only [execOp]
      rw [hx]
      exact fin (aloadC_ok hX himm h1 hc h)
    · simp at h
  · rename_i x
    split at h
    · rename_i k o h1
      have hx := hρ x _ h1
      simp at h; subst h
      have hx' := hx; simp only [RelA] at hx'
      obtain ⟨b, hb, e⟩ := hx'
      exact ⟨ev x, by simp [execOp, e], hx⟩
    · rename_i cs h1
      have hx := hρ x _ h1
      simp at h; subst h
      have hx' := hx; simp only [RelA, Rel] at hx'
      obtain ⟨b, o, e, _⟩ := hx'
      exact ⟨ev x, by simp [execOp, e], hx⟩
    · rename_i f cs h1
      have hx := hρ x _ h1
      simp at h; subst h
      have hx' := hx; simp only [RelA, Rel] at hx'
      obtain ⟨vs, e, _⟩ := hx'
      exact ⟨ev x, by simp [execOp, e], hx⟩
    · simp at h
  · rename_i op t x y _
    split at h
    · rename_i i a b h1 h2 h3
      exact fin (abin_ok hX h1 h (hρ x _ h2) (hρ y _ h3) x y)
    · simp at h
  · rename_i op _ x
    split at h
    · rename_i b h1
      have hx := hρ x _ h1; simp only [RelA, Rel] at hx
      simp at h; subst h
      exact ⟨.bool !b, by simp [execOp, hx, Op.unary], by simp [RelA, Rel]⟩
    · rename_i k n h1
      have hx := hρ x _ h1; simp only [RelA, Rel] at hx
      simp at h; subst h
      exact ⟨.int k (k.wrap (0 - n)), by simp [execOp, hx, Op.unary, Op.intArith], by simp [RelA, Rel]⟩
    · simp at h
  · rename_i s d x
    split at h
    · rename_i i j k n h1 h2 h3
      have hx := hρ x _ h3; simp only [RelA, Rel] at hx
      split at h
      · rename_i k' hk
        simp at h; subst h
        obtain ⟨d1, e1, _, e2⟩ := hX.run_underlying (w := w) h1
        obtain ⟨d2, e3, e4, e5⟩ := hX.run_underlying (w := w) h2
        rw [hk] at e4; simp only [KindOk] at e4; subst e4
        exact ⟨.int k' (k'.wrap n), by simp [execOp, hx, convert, e1, e3, Conv.intToInt], by simp [RelA, Rel]⟩
      · simp at h
    · simp at h
  · rename_i t x f
    split at h
    · rename_i i a h1 h2
      have hx := hρ x _ h2
      split at h
      · rename_i fs hk
        split at h
        · rename_i off ft hf
          split at h
          · rename_i k o
            simp at h; subst h
            simp only [RelA] at hx
            obtain ⟨b, hb, e⟩ := hx
            exact ⟨_, by simp [execOp, e, run_fieldAt hX h1 hk hf]; rfl, by simp only [RelA]; exact ⟨b, hb, rfl⟩⟩
          · rename_i cs
            split at h
            · rename_i r hr
              simp at h; subst h
              simp only [RelA, Rel] at hx
              obtain ⟨b, o, e, hc⟩ := hx
              obtain ⟨rfl, _⟩ := dropN_eq hr
              exact ⟨_, by simp [execOp, e, run_fieldAt hX h1 hk hf]; rfl, by simp only [RelA, Rel]; exact ⟨b, o + off, rfl, hc.drop⟩⟩
            · simp at h
          · simp at h
        · simp at h
      · simp at h
    · simp at h
  · rename_i t x f
    split at h
    · rename_i i a h1 h2
      have hx := hρ x _ h2
      split at h
      · rename_i fs hk
        split at h
        · rename_i off ft hf
          split at h
          · rename_i j hj
            split at h
            · rename_i cs
              split at h
              · rename_i r hr
                simp only [RelA] at hx
                obtain ⟨vs, e, c1, c2⟩ := hx
                have := run_part (P := P) (w := w) hX hj (vs := vs.toArray) (off := off) (.inl ⟨cs, r, by simpa using c1, c2, hr, h⟩)
                simp only [execOp, e]
                refine fin ?_
                rw [run_field hX h1 hk hf]; exact this
              · simp at h
            · rename_i cs
              split at h
              · rename_i r hr
                simp only [RelA, Rel] at hx
                obtain ⟨vs, e, c1, c2⟩ := hx
                have := run_part (P := P) (w := w) hX hj (vs := vs.toArray) (off := off) (.inr ⟨cs, r, by simpa using c1, c2, hr, h⟩)
                simp only [execOp, e]
                refine fin ?_
                rw [run_field hX h1 hk hf]; exact this
              · simp at h
            · simp at h
          · simp at h
        · simp at h
      · simp at h
    · simp at h
  · rename_i t x ix
    split at h
    · rename_i i a na h1 h2 h3
      have hx := hρ x _ h2; have hn := hρ ix _ h3
      split at h
      · rename_i n hn'
        obtain ⟨k, hn⟩ := asNat_val hn' hn
        obtain ⟨d, hd1, hd2, _⟩ := hX.run_underlying (w := w) h1
        split at h
        · rename_i e hk
          rw [hk] at hd2; simp only [KindOk] at hd2; subst hd2
          split at h
          · rename_i j s rows hj hr
            split at h
            · rename_i r hb hnth
              have := beq_true hb; subst this
              simp at h; subst h
              obtain ⟨base, len, cap, e1, e2, _, e3⟩ := rowsOf_val hr hx
              rw [nth_eq] at hnth
              have hlt : n < rows.length := (List.getElem?_eq_some_iff.1 hnth).1
              rcases e3 with rfl | ⟨b, o, rfl, hrows⟩
              · simp at hlt
              · have hg := (hrows.get n r hnth).1
                refine ⟨.pointer (some ⟨b, o + n * j.size, none⟩), ?_, by simp only [RelA, Rel]; exact ⟨b, _, rfl, hg⟩⟩
                simp [execOp, e1, hn, Instr.indexAt, asIntOf, hd1, e2, hlt, hX.run_sizeOf hj, Addr.add_lit]
            · simp at h
          · simp at h
        · rename_i m e hk
          rw [hk] at hd2; simp only [KindOk] at hd2; subst hd2
          split at h
          · rename_i j k' o hj hlt'
            simp at h; subst h
            have hlt : n < m := by simpa [Nat.blt_eq] using hlt'
            simp only [RelA] at hx
            obtain ⟨b, hb, e1⟩ := hx
            refine ⟨.pointer (some ⟨b, o + n * j.size, none⟩), ?_, by simp only [RelA]; exact ⟨b, hb, rfl⟩⟩
            simp [execOp, e1, hn, Instr.indexAt, asIntOf, hd1, Instr.sureAddr, hlt, hX.run_sizeOf hj, Addr.add_lit]
          · simp at h
        · simp at h
      · simp at h
    · simp at h
  · rename_i t x ix
    split at h
    · rename_i i a na h1 h2 h3
      have hx := hρ x _ h2; have hn := hρ ix _ h3
      split at h
      · rename_i n hn'
        obtain ⟨k, hn⟩ := asNat_val hn' hn
        obtain ⟨d, hd1, hd2, _⟩ := hX.run_underlying (w := w) h1
        split at h
        · rename_i s hk
          rw [hk] at hd2; simp only [KindOk] at hd2; subst hd2
          simp only [RelA, Rel] at hx
          split at h
          · rename_i b hb
            simp at h; subst h
            rw [nth_eq] at hb
            have hlt : n < s.length := (List.getElem?_eq_some_iff.1 hb).1
            have hget : (ByteArray.mk s.toArray)[n]? = some b := by
              rw [getElem?_pos _ _ (by rw [bs_ext]; exact hlt)]
              congr 1
              have := (List.getElem?_eq_some_iff.1 hb).2
              rw [← this]; rfl
            refine ⟨.int .u8 b.toNat, ?_, by simp [RelA, Rel]⟩
            simp [execOp, hx, hn, Instr.index, asIntOf, hd1, hget]
          · simp at h
        · simp at h
      · simp at h
    · simp at h
  · rename_i x n
    split at h
    · rename_i cs h1
      have hx := hρ x _ h1; simp only [RelA] at hx
      obtain ⟨vs, e, c1, _⟩ := hx
      rw [nth_eq] at h
      obtain ⟨u, e1, e2⟩ := (RelAL.get c1).2 n v h
      exact ⟨u, by simp [execOp, e, Instr.extract, e1], e2⟩
    · rename_i cs h1
      have hx := hρ x _ h1; simp only [RelA, Rel] at hx
      obtain ⟨vs, e, c1, _⟩ := hx
      split at h
      · rename_i cv hcv
        simp at h; subst h
        rw [nth_eq] at hcv
        obtain ⟨u, e1, e2⟩ := (RelL.get c1).2 n cv hcv
        exact ⟨u, by simp [execOp, e, Instr.extract, e1], by simpa only [RelA] using e2⟩
      · simp at h
    · simp at h
  · rename_i t parts
    split at h
    · rename_i i h1
      split at h
      · rename_i fs z hk hz
        split at h
        · rename_i cells hc
          simp at h; subst h
          exact fin (run_build hX h1 hk hz hρ hc)
        · simp at h
      · simp at h
    · simp at h
  · rename_i t x lo hi mx
    split at h
    · rename_i i a lo' hi' mx' h1 h2 h3 h4 h5
      have hx := hρ x _ h2
      have b1 := bound_ok hρ h3; have b2 := bound_ok hρ h4; have b3 := bound_ok hρ h5
      split at h
      · rename_i e hk
        split at h
        · rename_i j hj
          exact fin (aslice_ok hX h1 (fun e' he' => by rw [hk] at he'; simp at he'; subst he'; exact ⟨j, hj, rfl⟩) h hx b1 b2 b3)
        · simp at h
      · rename_i hk
        exact fin (aslice_ok hX h1 (fun e' he' => absurd he' (hk e')) h hx b1 b2 b3)
    · simp at h
  · rename_i f first caps
    split at h
    · rename_i l h1 h2
      simp at h; subst h
      have := capsOf_ok hρ h2
      refine ⟨.func (.func f) #[] (caps.map ev), ?_, by simp only [RelA, Rel]; exact ⟨caps.toList.map ev, by rw [← Array.toList_map], this⟩⟩
      have hf : first = #[] := by simpa using h1
      simp [execOp, hf, Instr.makeFunc]
    · simp at h
  · rename_i args argTypes
    split at h
    · rename_i x t hx ht
      split at h
      · rename_i i a h1 h2
        have e1 : args = #[x] := by simpa using congrArg List.toArray hx
        have e2 : argTypes = #[t] := by simpa using congrArg List.toArray ht
        obtain ⟨r, r1, r2⟩ := alen_ok (P := P) (w := w) hX h1 h (hρ x a h2) type
        refine ⟨r, ?_, r2⟩
        simp [execOp, resolve, invoke, builtin, e1, e2, r1]
      · simp at h
    · simp at h
  · rename_i args _
    unfold amin at h
    split at h
    · rename_i k a k' b hab
      simp at h; subst h
      cases hl : args.toList with
      | nil => rw [hl] at hab; simp at hab
      | cons x l =>
        cases l with
        | nil => rw [hl] at hab; simp at hab
        | cons y l =>
          cases l with
          | cons z l => rw [hl] at hab; simp at hab
          | nil =>
            rw [hl] at hab; simp at hab
            have hx := hρ x _ hab.1; have hy := hρ y _ hab.2
            simp only [RelA, Rel] at hx hy
            refine ⟨.int k (if b < a then b else a), ?_, by simp [RelA, Rel]⟩
            have e1 : args = #[x, y] := by simpa using congrArg List.toArray hl
            simp [execOp, resolve, invoke, builtin, e1, Builtin.min_, Builtin.min2, hx, hy]
    · simp at h
  · rename_i args _
    unfold amax at h
    split at h
    · rename_i k a k' b hab
      simp at h; subst h
      cases hl : args.toList with
      | nil => rw [hl] at hab; simp at hab
      | cons x l =>
        cases l with
        | nil => rw [hl] at hab; simp at hab
        | cons y l =>
          cases l with
          | cons z l => rw [hl] at hab; simp at hab
          | nil =>
            rw [hl] at hab; simp at hab
            have hx := hρ x _ hab.1; have hy := hρ y _ hab.2
            simp only [RelA, Rel] at hx hy
            refine ⟨.int k (if b > a then b else a), ?_, by simp [RelA, Rel]⟩
            have e1 : args = #[x, y] := by simpa using congrArg List.toArray hl
            simp [execOp, resolve, invoke, builtin, e1, Builtin.max_, Builtin.max2, hx, hy]
    · simp at h
  · simp at h
end
end Go.Abs

namespace Go.Abs

structure Fp where
  R : List Nat
  W : List Nat
  deriving Inhabited

abbrev Env := List (Nat × AV)

def AgreeAt (k : Nat) (σ σ1 : St) : Prop := getK k σ1.boxes = getK k σ.boxes ∧ getK k σ1.toks = getK k σ.toks ∧ (k ∈ σ1.used ↔ k ∈ σ.used)

def Agree (fp : Fp) (σ σ1 : St) : Prop := ∀ k, k ∈ fp.R ∨ k ∈ fp.W → AgreeAt k σ σ1

/-- The change that a step makes of states: it touches what it says, and hangs on nothing else. -/
structure EffOk (eff : St → St) (fp : Fp) : Prop where
  out : ∀ σ k, k ∉ fp.W → AgreeAt k σ (eff σ)
  same : ∀ σ σ1, Agree fp σ σ1 → ∀ k, k ∈ fp.W → AgreeAt k (eff σ) (eff σ1)

theorem EffOk.id (R : List Nat) : EffOk (fun σ => σ) ⟨R, []⟩ := ⟨fun _ _ _ => ⟨rfl, rfl, Iff.rfl⟩, fun _ _ _ k h => by simp at h⟩

/-- An operation, begun in any state that is alike where it looks, leads on with the value and the change. -/
def OpSem (P : Program) (X : Ctx) (o : Oper) (env : Env) (σ : St) (v : AV) (eff : St → St) (fp : Fp) : Prop :=
  ∀ (env1 : Env) (σ1 : St) (w : World) (g : Gh) (a : Act) (next : Act → World → Prop) (Q : Exit → Act → World → Prop),
    (∀ x ∈ o.op.operands.toList, aeval X env1 x = aeval X env x) → Agree fp σ σ1 → Inv w g σ1 → GlobOk X g.G → EnvOk g env1 a.tmps →
    (∀ u w' g', RelA g' v u → Inv w' g' (eff σ1) → Keep w g σ1 w' g' (eff σ1) → g.le g' → next (a.put o.dst u) w') → o.wp P a w next Q

structure It where
  run : Bool
  v : AV
  eff : St → St
  fp : Fp

def It.skip : It := ⟨false, .c .undef, fun σ => σ, ⟨[], []⟩⟩

def putE (d : Option Nat) (v : AV) (env : Env) : Env := match d with
  | some d => (d, v) :: env
  | none => env

def slotOf (ops : Array Oper) (j : Nat) : Option Nat := (ops[j]?).bind (·.dst)

def GuardIn (ops : Array Oper) (o : Oper) (env : Env) : Prop := match o.guard with
  | none => True
  | some (j, want) => ∃ d, slotOf ops j = some d ∧ getK d env = some (.c (.bool want))

def GuardOut (ops : Array Oper) (o : Oper) (env : Env) : Prop := match o.guard with
  | none => False
  | some (j, want) => ∃ d, slotOf ops j = some d ∧ (getK d env = some (.c (.bool (!want))) ∨ getK d env = some (.c .undef))

/-- One step of a row. -/
def LStep (P : Program) (X : Ctx) (ops : Array Oper) (i : Nat) (it : It) (env : Env) (σ : St) (env' : Env) (σ' : St) : Prop :=
  ∃ o, ops[i]? = some o ∧ env' = putE o.dst it.v env ∧ σ' = it.eff σ ∧ EffOk it.eff it.fp ∧
    ((it = It.skip ∧ GuardOut ops o env) ∨ (it.run = true ∧ GuardIn ops o env ∧ OpSem P X o env σ it.v it.eff it.fp))

def LOps (P : Program) (X : Ctx) (ops : Array Oper) : List (Nat × It) → Env → St → Env → St → Prop
  | [], env, σ, env', σ' => env' = env ∧ σ' = σ
  | (i, it) :: l, env, σ, env', σ' => ∃ env1 σ1, LStep P X ops i it env σ env1 σ1 ∧ LOps P X ops l env1 σ1 env' σ'

/-- States that look alike. -/
def Ext (env : Env) (σ : St) (env1 : Env) (σ1 : St) : Prop := (∀ t, getK t env1 = getK t env) ∧ ∀ k, AgreeAt k σ σ1

theorem AgreeAt.refl (k : Nat) (σ : St) : AgreeAt k σ σ := ⟨rfl, rfl, Iff.rfl⟩
theorem AgreeAt.symm {k : Nat} {σ σ1 : St} (h : AgreeAt k σ σ1) : AgreeAt k σ1 σ := ⟨h.1.symm, h.2.1.symm, h.2.2.symm⟩
theorem AgreeAt.trans {k : Nat} {σ σ1 σ2 : St} (h : AgreeAt k σ σ1) (h' : AgreeAt k σ1 σ2) : AgreeAt k σ σ2 :=
  ⟨h'.1.trans h.1, h'.2.1.trans h.2.1, h'.2.2.trans h.2.2⟩

theorem Ext.refl (env : Env) (σ : St) : Ext env σ env σ := ⟨fun _ => rfl, fun k => AgreeAt.refl k σ⟩
theorem Ext.trans {e e1 e2 : Env} {s s1 s2 : St} (h : Ext e s e1 s1) (h' : Ext e1 s1 e2 s2) : Ext e s e2 s2 :=
  ⟨fun t => (h'.1 t).trans (h.1 t), fun k => (h.2 k).trans (h'.2 k)⟩

theorem getK_cons {α : Type} (t d : Nat) (v : α) (l : List (Nat × α)) : getK t ((d, v) :: l) = if t = d then some v else getK t l := by
  simp only [getK]
  split
  · rename_i h; rw [if_pos (beq_true h).symm]
  · rename_i h; rw [if_neg (fun e => beq_false h e.symm)]

theorem getK_putE (t : Nat) (d : Option Nat) (v : AV) (env : Env) : getK t (putE d v env) = if d = some t then some v else getK t env := by
  cases d with
  | none => simp [putE]
  | some d =>
    simp only [putE, getK_cons, Option.some.injEq]
    by_cases h : t = d
    · subst h; simp
    · rw [if_neg h, if_neg (fun e => h e.symm)]

theorem aeval_congr {X : Ctx} {env env1 : Env} {x : Operand} (h : ∀ t, x = .tmp t → getK t env1 = getK t env) : aeval X env1 x = aeval X env x := by
  cases x <;> simp [aeval]
  exact h _ rfl

theorem OpSem.congr {P : Program} {X : Ctx} {o : Oper} {env env1 : Env} {σ σ1 : St} {v : AV} {eff : St → St} {fp : Fp} (h : OpSem P X o env σ v eff fp)
    (he : ∀ x ∈ o.op.operands.toList, aeval X env1 x = aeval X env x) (hs : Agree fp σ σ1) : OpSem P X o env1 σ1 v eff fp :=
  fun env2 σ2 w g a next Q h1 h2 => h env2 σ2 w g a next Q (fun x hx => (h1 x hx).trans (he x hx)) (fun k hk => (hs k hk).trans (h2 k hk))

theorem LStep.transport {P : Program} {X : Ctx} {ops : Array Oper} {i : Nat} {it : It} {env env1 env' : Env} {σ σ1 σ' : St} (h : LStep P X ops i it env σ env' σ')
    (hx : Ext env σ env1 σ1) : ∃ env1' σ1', LStep P X ops i it env1 σ1 env1' σ1' ∧ Ext env' σ' env1' σ1' := by
  obtain ⟨o, ho, rfl, rfl, hE, h⟩ := h
  refine ⟨_, _, ⟨o, ho, rfl, rfl, hE, ?_⟩, fun t => ?_, fun k => ?_⟩
  · rcases h with ⟨h1, h2⟩ | ⟨h1, h2, h3⟩
    · refine .inl ⟨h1, ?_⟩
      unfold GuardOut at *
      split at h2
      · exact h2
      · obtain ⟨d, e1, e2⟩ := h2; exact ⟨d, e1, by rw [hx.1]; exact e2⟩
    · refine .inr ⟨h1, ?_, h3.congr (fun x _ => aeval_congr fun t _ => hx.1 t) (fun k _ => hx.2 k)⟩
      unfold GuardIn at *
      split at h2
      · trivial
      · obtain ⟨d, e1, e2⟩ := h2; exact ⟨d, e1, by rw [hx.1]; exact e2⟩
  · simp only [getK_putE, hx.1]
  · by_cases hk : k ∈ it.fp.W
    · exact hE.same _ _ (fun k _ => hx.2 k) k hk
    · exact ((hE.out σ k hk).symm.trans (hx.2 k)).trans (hE.out σ1 k hk)

theorem LOps.transport {P : Program} {X : Ctx} {ops : Array Oper} : ∀ {l : List (Nat × It)} {env env1 env' : Env} {σ σ1 σ' : St}, LOps P X ops l env σ env' σ' →
    Ext env σ env1 σ1 → ∃ env1' σ1', LOps P X ops l env1 σ1 env1' σ1' ∧ Ext env' σ' env1' σ1'
  | [], _, _, _, _, _, _, ⟨h1, h2⟩, hx => ⟨_, _, ⟨rfl, rfl⟩, by subst h1 h2; exact hx⟩
  | (i, it) :: l, env, env1, env', σ, σ1, σ', ⟨e2, s2, h1, h2⟩, hx => by
    obtain ⟨e3, s3, h3, hx3⟩ := h1.transport hx
    obtain ⟨e4, s4, h4, hx4⟩ := LOps.transport h2 hx3
    exact ⟨e4, s4, ⟨e3, s3, h3, h4⟩, hx4⟩

def disj (l r : List Nat) : Bool := l.all fun x => !r.contains x

theorem disj_iff {l r : List Nat} (h : disj l r = true) {k : Nat} (h1 : k ∈ l) : k ∉ r := by
  simp only [disj, List.all_eq_true] at h
  have := h k h1
  simpa using this

/-- Two steps that may be done in either order. -/
def indep (ops : Array Oper) (i j : Nat) (f g : Fp) : Bool := match ops[i]?, ops[j]? with
  | some x, some y => Oper.apart ops x y && disj f.W g.R && disj f.W g.W && disj g.W f.R
  | _, _ => false

theorem looksAt_operand {ops : Array Oper} {o : Oper} {t : Nat} (h : Operand.tmp t ∈ o.op.operands.toList) : t ∈ o.looksAt ops := by
  unfold Oper.looksAt
  exact List.mem_append_left _ (List.mem_filterMap.2 ⟨_, h, rfl⟩)

theorem looksAt_guard {ops : Array Oper} {o : Oper} {j : Nat} {b : Bool} {d : Nat} (h : o.guard = some (j, b)) (hd : slotOf ops j = some d) : d ∈ o.looksAt ops := by
  unfold Oper.looksAt
  refine List.mem_append_right _ ?_
  rw [h]; simp only
  unfold slotOf at hd
  rw [hd]; simp

/-- A step that does not look at a slot or a key is the same ahead of its change. -/
theorem LStep.before {P : Program} {X : Ctx} {ops : Array Oper} {i : Nat} {o : Oper} (ho : ops[i]? = some o) {it : It} {env env1 : Env} {σ σ1 : St}
    (hl : ∀ t ∈ o.looksAt ops, getK t env1 = getK t env) (hs : Agree it.fp σ σ1) {env' : Env} {σ' : St} (h : LStep P X ops i it env σ env' σ') :
    LStep P X ops i it env1 σ1 (putE o.dst it.v env1) (it.eff σ1) := by
  obtain ⟨o', ho', rfl, rfl, hE, h⟩ := h
  rw [ho] at ho'; simp at ho'; subst ho'
  refine ⟨o, ho, rfl, rfl, hE, ?_⟩
  rcases h with ⟨h1, h2⟩ | ⟨h1, h2, h3⟩
  · refine .inl ⟨h1, ?_⟩
    unfold GuardOut at *
    split at h2
    · exact h2
    · rename_i j want hg
      obtain ⟨d, e1, e2⟩ := h2; exact ⟨d, e1, by rw [hl d (looksAt_guard hg e1)]; exact e2⟩
  · refine .inr ⟨h1, ?_, h3.congr (fun x hx => aeval_congr fun t ht => ?_) hs⟩
    · unfold GuardIn at *
      split at h2
      · trivial
      · rename_i j want hg
        obtain ⟨d, e1, e2⟩ := h2; exact ⟨d, e1, by rw [hl d (looksAt_guard hg e1)]; exact e2⟩
    · subst ht; exact hl t (looksAt_operand hx)

theorem LStep.swap {P : Program} {X : Ctx} {ops : Array Oper} {i j : Nat} {x y : It} {env env1 env2 : Env} {σ σ1 σ2 : St} (hi : indep ops i j x.fp y.fp = true)
    (h1 : LStep P X ops i x env σ env1 σ1) (h2 : LStep P X ops j y env1 σ1 env2 σ2) :
    ∃ e1 s1 e2 s2, LStep P X ops j y env σ e1 s1 ∧ LStep P X ops i x e1 s1 e2 s2 ∧ Ext env2 σ2 e2 s2 := by
  obtain ⟨ox, hox, e1, s1, hEx, hx⟩ := id h1
  obtain ⟨oy, hoy, e2, s2, hEy, hy⟩ := id h2
  unfold indep at hi
  simp only [hox, hoy, Bool.and_eq_true] at hi
  obtain ⟨⟨⟨hap, hd1⟩, hd2⟩, hd3⟩ := hi
  obtain ⟨a1, a2, a3⟩ := Oper.apart_spec hap
  subst e1 s1
  have hy' : LStep P X ops j y env σ (putE oy.dst y.v env) (y.eff σ) := by
    refine LStep.before hoy ?_ ?_ h2
    · intro t ht
      rw [getK_putE, if_neg (fun e => a1 t e ht)]
    · intro k hk
      refine (hEx.out σ k fun hw => ?_).symm
      rcases hk with hk | hk
      · exact disj_iff hd1 hw hk
      · exact disj_iff hd2 hw hk
  have hag : Agree x.fp σ (y.eff σ) := by
    intro k hk
    refine hEy.out σ k fun hw => ?_
    rcases hk with hk | hk
    · exact disj_iff hd3 hw hk
    · exact disj_iff hd2 hk hw
  have hx' : LStep P X ops i x (putE oy.dst y.v env) (y.eff σ) (putE ox.dst x.v (putE oy.dst y.v env)) (x.eff (y.eff σ)) := by
    refine LStep.before hox ?_ hag h1
    intro t ht
    rw [getK_putE, if_neg (fun e => a3 t e ht)]
  refine ⟨_, _, _, _, hy', hx', ?_, ?_⟩
  · intro t
    subst e2
    simp only [getK_putE]
    by_cases hxd : ox.dst = some t
    · rw [if_pos hxd, if_neg (a2 t hxd), if_pos hxd]
    · rw [if_neg hxd]
      by_cases hyd : oy.dst = some t
      · rw [if_pos hyd, if_pos hyd]
      · rw [if_neg hyd, if_neg hyd, if_neg hxd]
  · intro k
    subst s2
    by_cases hk : k ∈ x.fp.W
    · -- the second did not touch it
      have hk2 : k ∉ y.fp.W := fun h => disj_iff hd2 hk h
      exact (hEy.out (x.eff σ) k hk2).symm.trans (hEx.same _ _ hag k hk)
    · have e := hEx.out (y.eff σ) k hk
      refine AgreeAt.trans ?_ e
      by_cases hk2 : k ∈ y.fp.W
      · refine hEy.same _ _ ?_ k hk2
        intro k' hk'
        refine (hEx.out σ k' fun hw => ?_).symm
        rcases hk' with hk' | hk'
        · exact disj_iff hd1 hw hk'
        · exact disj_iff hd2 hw hk'
      · exact ((hEy.out (x.eff σ) k hk2).symm.trans (hEx.out σ k hk).symm).trans (hEy.out σ k hk2)

/-- A step that none ahead of it hinders may be done first. -/
theorem LOps.front {P : Program} {X : Ctx} {ops : Array Oper} {i : Nat} {it : It} : ∀ {p q : List (Nat × It)} {env env' : Env} {σ σ' : St},
    (∀ x ∈ p, indep ops x.1 i x.2.fp it.fp = true) → LOps P X ops (p ++ (i, it) :: q) env σ env' σ' →
    ∃ e1 s1 e2 s2, LStep P X ops i it env σ e1 s1 ∧ LOps P X ops (p ++ q) e1 s1 e2 s2 ∧ Ext env' σ' e2 s2
  | [], q, env, env', σ, σ', _, ⟨e1, s1, h1, h2⟩ => ⟨e1, s1, env', σ', h1, h2, Ext.refl _ _⟩
  | (j, x) :: p, q, env, env', σ, σ', hp, ⟨e1, s1, h1, h2⟩ => by
    obtain ⟨e2, s2, e3, s3, h3, h4, hx3⟩ := LOps.front (fun x hx => hp x (List.mem_cons_of_mem _ hx)) h2
    obtain ⟨e4, s4, e5, s5, h5, h6, hx5⟩ := LStep.swap (hp (j, x) (by simp)) h1 h3
    obtain ⟨e6, s6, h7, hx6⟩ := h4.transport hx5
    exact ⟨e4, s4, e6, s6, h5, ⟨e5, s5, h6, h7⟩, hx3.trans hx6⟩

end Go.Abs

namespace Go.Abs

structure Base where
  w : World
  g : Gh
  σ : St

structure Live (X : Ctx) (β : Base) (n : Nat) (env : Env) (σ : St) (g : Gh) (w : World) (a : Act) : Prop where
  inv : Inv w g σ
  glob : GlobOk X g.G
  env : EnvOk g env a.tmps
  frame : Keep β.w β.g β.σ w g σ
  size : a.tmps.size = n
  defers : a.defers = []

theorem Inv.ext {w : World} {g : Gh} {σ σ1 : St} (h : Inv w g σ) (hx : ∀ k, AgreeAt k σ σ1) : Inv w g σ1 where
  imm := h.imm
  box := fun k cs e => h.box k cs ((hx k).1.symm.trans e)
  boxinj := fun k k' cs cs' b e e' => h.boxinj k k' cs cs' b ((hx k).1.symm.trans e) ((hx k').1.symm.trans e')
  tok := fun k n e => by
    obtain ⟨reg, h1, h2⟩ := h.tok k n ((hx k).2.1.symm.trans e)
    refine ⟨reg, h1, fun b lo hi hr => ?_⟩
    obtain ⟨h3, h4, h5⟩ := h2 b lo hi hr
    exact ⟨h3, h4, fun k' cs e' => h5 k' cs ((hx k').1.symm.trans e')⟩
  tokinj := fun k k' n n' b lo hi lo' hi' e e' => h.tokinj k k' n n' b lo hi lo' hi' ((hx k).2.1.symm.trans e) ((hx k').2.1.symm.trans e')
  used := fun k e => (hx k).2.2.2 (h.used k e)
  room := fun k cs b e => h.room k cs b ((hx k).1.symm.trans e)

theorem Keep.ext {w w' : World} {g g' : Gh} {σ σ' σ1 : St} (h : Keep w g σ w' g' σ') (hx : ∀ k, AgreeAt k σ' σ1) : Keep w g σ w' g' σ1 where
  os := h.os
  tape := h.tape
  output := h.output
  size := h.size
  block := h.block
  kept := h.kept
  le := h.le
  new := h.new
  boxes := fun k cs b e => h.boxes k cs b ((hx k).1.symm.trans e)
  toks := fun k n b lo hi e => h.toks k n b lo hi ((hx k).2.1.symm.trans e)
  ids := fun k hk e => h.ids k hk (by rw [← (hx k).1]; exact e)

theorem Live.ext {X : Ctx} {β : Base} {n : Nat} {env env1 : Env} {σ σ1 : St} {g : Gh} {w : World} {a : Act} (h : Live X β n env σ g w a) (hx : Ext env σ env1 σ1) : Live X β n env1 σ1 g w a where
  inv := h.inv.ext hx.2
  glob := h.glob
  env := fun t v e => h.env t v ((hx.1 t).symm.trans e)
  frame := h.frame.ext hx.2
  size := h.size
  defers := h.defers

def dstsOk (ops : Array Oper) (n : Nat) : Bool := ops.toList.all fun o => match o.dst with
  | some d => Nat.blt d n
  | none => true

theorem dstsOk_get {ops : Array Oper} {n i d : Nat} {o : Oper} (h : dstsOk ops n = true) (ho : ops[i]? = some o) (hd : o.dst = some d) : d < n := by
  simp only [dstsOk, List.all_eq_true] at h
  have := h o (by rw [Array.mem_toList_iff]; exact Array.mem_of_getElem? ho)
  rw [hd] at this
  simpa [Nat.blt_eq] using this

theorem EnvOk.put {g : Gh} {env : Env} {a : Act} {d : Option Nat} {v : AV} {u : Value} (h : EnvOk g env a.tmps) (hu : RelA g v u) (hd : ∀ k, d = some k → k < a.tmps.size) :
    EnvOk g (putE d v env) (a.put d u).tmps := by
  intro t x e
  rw [getK_putE] at e
  cases d with
  | none => simp at e; exact h t x e
  | some k =>
    simp only [Option.some.injEq] at e
    simp only [Act.put]
    by_cases hk : k = t
    · subst hk
      rw [if_pos rfl] at e; simp at e; subst e
      have hlt := hd k rfl
      simpa [Array.getD, hlt] using hu
    · rw [if_neg hk] at e
      have := h t x e
      have hg : (a.tmps.setIfInBounds k u).getD t undef = a.tmps.getD t undef := by
        simp only [Array.getD_eq_getD_getElem?, Array.getElem?_setIfInBounds, if_neg hk]
      rw [hg]; exact this

theorem yielded_of {g : Gh} {ops : Array Oper} {env : Env} {tmps : Array Value} (h : EnvOk g env tmps) {j d : Nat} (hd : slotOf ops j = some d) :
    (∀ b, getK d env = some (.c (.bool b)) → yielded ops tmps j = some b) ∧ (getK d env = some (.c .undef) → yielded ops tmps j = none) := by
  unfold slotOf at hd
  constructor
  · intro b e
    have := h d _ e
    simp only [RelA, Rel] at this
    simp only [yielded, hd, Option.bind_some]
    simp only [Array.getD] at this
    split at this
    · rename_i hlt
      have : tmps[d]? = some (.bool b) := by rw [Array.getElem?_eq_getElem hlt]; exact congrArg some this
      rw [this]
    · simp [Go.undef] at this
  · intro e
    have := h d _ e
    simp only [RelA, Rel] at this
    simp only [yielded, hd, Option.bind_some]
    simp only [Array.getD] at this
    split at this
    · rename_i hlt
      have : tmps[d]? = some Go.undef := by rw [Array.getElem?_eq_getElem hlt]; exact congrArg some this
      rw [this]; rfl
    · rename_i hlt
      rw [Array.getElem?_eq_none (by omega)]

theorem LStep.wp {P : Program} {X : Ctx} {β : Base} {n : Nat} {ops : Array Oper} (hd : dstsOk ops n = true) {i : Nat} {it : It} {env env' : Env} {σ σ' : St} (h : LStep P X ops i it env σ env' σ')
    {g : Gh} {w : World} {a : Act} (hL : Live X β n env σ g w a) {K : Act → World → Prop} {Q : Exit → Act → World → Prop}
    (hK : ∀ g' w' a', Live X β n env' σ' g' w' a' → K a' w') : wpOp P ops Q i K a w := by
  obtain ⟨o, ho, rfl, rfl, hE, h⟩ := h
  have hdst : ∀ k, o.dst = some k → k < a.tmps.size := fun k hk => by rw [hL.size]; exact dstsOk_get hd ho hk
  have hput : ∀ u, (a.put o.dst u).tmps.size = n ∧ (a.put o.dst u).defers = [] := by
    intro u
    cases o.dst <;> simp [Act.put, hL.size, hL.defers]
  simp only [wpOp, ho]
  rcases h with ⟨rfl, hg⟩ | ⟨hr, hg, hs⟩
  · have hw : Region.wanted o (yielded ops a.tmps) = false := by
      unfold GuardOut at hg
      unfold Region.wanted
      split at hg
      · exact hg.elim
      · rename_i j want hgd
        obtain ⟨d, e1, e2⟩ := hg
        obtain ⟨y1, y2⟩ := yielded_of hL.env e1
        simp only [hgd]
        rcases e2 with e2 | e2
        · rw [y1 _ e2]; cases want <;> rfl
        · rw [y2 e2]; rfl
    rw [if_neg (by simp [hw])]
    refine hK g w _ ⟨hL.inv, hL.glob, hL.env.put (by simp [It.skip, RelA, Rel]) hdst, hL.frame, (hput _).1, (hput _).2⟩
  · have hw : Region.wanted o (yielded ops a.tmps) = true := by
      unfold GuardIn at hg
      unfold Region.wanted
      split at hg
      · rename_i hgd; simp only [hgd]
      · rename_i j want hgd
        obtain ⟨d, e1, e2⟩ := hg
        obtain ⟨y1, _⟩ := yielded_of hL.env e1
        simp only [hgd]
        rw [y1 _ e2]; cases want <;> rfl
    rw [if_pos hw]
    refine .inl (hs env σ w g a K Q (fun _ _ => rfl) (fun k _ => AgreeAt.refl k σ) hL.inv hL.glob hL.env ?_)
    intro u w' g' h1 h2 h3 h4
    refine hK g' w' _ ⟨h2, ?_, (hL.env.mono h4).put h1 hdst, hL.frame.trans h3, (hput _).1, (hput _).2⟩
    intro k v hk
    exact Rel.mono h4.1 _ _ (hL.glob k v hk)

theorem LOps.wp {P : Program} {X : Ctx} {β : Base} {n : Nat} {ops : Array Oper} (hd : dstsOk ops n = true) {Q : Exit → Act → World → Prop} :
    ∀ {l : List (Nat × It)} {env env' : Env} {σ σ' : St}, LOps P X ops l env σ env' σ' → ∀ {g : Gh} {w : World} {a : Act}, Live X β n env σ g w a →
    (∀ g' w' a', Live X β n env' σ' g' w' a' → Q .normal a' w') → wpOps P ops Q (l.map (·.1)) a w
  | [], env, env', σ, σ', ⟨h1, h2⟩, g, w, a, hL, hQ => by subst h1 h2; exact hQ g w a hL
  | (i, it) :: l, env, env', σ, σ', ⟨e1, s1, h1, h2⟩, g, w, a, hL, hQ => by
    rw [List.map_cons, wpOps_cons]
    exact h1.wp hd hL fun g' w' a' hL' => LOps.wp hd h2 hL' hQ

def edgesOf (o : Oper) : List Nat := o.after.toList.filterMap fun e => if Region.binds .any e then some e.on else none

/-- What comes ahead of each operation, as bits. -/
def closGo : List (List Nat) → List Nat → List Nat
  | [], acc => acc
  | es :: rest, acc => closGo rest (acc ++ [es.foldl (fun s e => s ||| 2 ^ e ||| acc.getD e 0) 0])

def clos (ops : Array Oper) : List Nat := closGo (ops.toList.map edgesOf) []

theorem foldl_bits (acc : List Nat) (j : Nat) : ∀ (es : List Nat) (s : Nat), (es.foldl (fun s e => s ||| 2 ^ e ||| acc.getD e 0) s).testBit j = true →
    s.testBit j = true ∨ ∃ e ∈ es, e = j ∨ (acc.getD e 0).testBit j = true
  | [], s, h => .inl h
  | e :: es, s, h => by
    simp only [List.foldl_cons] at h
    rcases foldl_bits acc j es _ h with h | ⟨e', h1, h2⟩
    · simp only [Nat.testBit_or, Bool.or_eq_true] at h
      rcases h with (h | h) | h
      · exact .inl h
      · rw [Nat.testBit_two_pow] at h
        exact .inr ⟨e, by simp, .inl (by simpa using h)⟩
      · exact .inr ⟨e, by simp, .inr h⟩
    · exact .inr ⟨e', by simp [h1], h2⟩

theorem closGo_get : ∀ (es : List (List Nat)) (acc : List Nat) (i : Nat), acc.length ≤ i → i < acc.length + es.length →
    ∀ j, ((closGo es acc).getD i 0).testBit j = true → ∃ e ∈ es.getD (i - acc.length) [], e = j ∨ ((closGo es acc).getD e 0).testBit j = true
  | [], acc, i, h1, h2, j, h => by simp at h2; omega
  | x :: es, acc, i, h1, h2, j, h => by
    have hpre : ∀ (es : List (List Nat)) (acc : List Nat) (k : Nat), k < acc.length → (closGo es acc).getD k 0 = acc.getD k 0 := by
      intro es
      induction es with
      | nil => intro acc k hk; rfl
      | cons y es ih =>
        intro acc k hk
        simp only [closGo]
        rw [ih _ _ (by simp; omega)]
        simp [List.getD, List.getElem?_append_left hk]
    simp only [closGo] at h ⊢
    by_cases hi : i = acc.length
    · subst hi
      rw [hpre _ _ _ (by simp)] at h
      simp only [List.getD, List.getElem?_append_right (Nat.le_refl _), Nat.sub_self, List.getElem?_cons_zero, Option.getD_some] at h
      rcases foldl_bits acc j x 0 h with h | ⟨e, h3, h4⟩
      · simp at h
      · refine ⟨e, by simpa using h3, h4.imp id fun h5 => ?_⟩
        by_cases he : e < acc.length
        · rw [hpre _ _ _ (by simp; omega)]
          simpa [List.getD, List.getElem?_append_left he] using h5
        · simp [List.getD, List.getElem?_eq_none (Nat.le_of_not_lt he)] at h5
    · obtain ⟨e, h3, h4⟩ := closGo_get es (acc ++ [x.foldl (fun s e => s ||| 2 ^ e ||| acc.getD e 0) 0]) i (by simp; omega) (by simp at h2 ⊢; omega) j h
      refine ⟨e, ?_, h4⟩
      simp only [List.length_append, List.length_cons, List.length_nil] at h3
      rw [show i - acc.length = (i - (acc.length + (0 + 1))) + 1 from by omega]
      simpa using h3

/-- May the operations be done in whatever order the edges allow? The feet of each one are given. -/
def okDraw (ops : Array Oper) (fps : List Fp) : Bool :=
  let cl := clos ops
  (List.range ops.size).all fun i => (((ops[i]?).map edgesOf).getD []).all (fun e => Nat.blt e i) &&
    (List.range i).all fun j => (cl.getD i 0).testBit j || indep ops j i (fps.getD j ⟨[], []⟩) (fps.getD i ⟨[], []⟩)

end Go.Abs
