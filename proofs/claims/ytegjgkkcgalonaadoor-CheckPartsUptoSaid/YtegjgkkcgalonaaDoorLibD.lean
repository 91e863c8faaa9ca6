/- A layer of abstract values over the model, part D: A box of rows becomes memory that nobody writes. Calls that are given a slice over a block that may be written, or give one. Contracts of calls with slices over boxes: by a walk, and by what is known of the world. Slices told from nil, and conditions that are not known. Results that say less than what is known. Operations that make or write memory, worked out in one step. Slices into one block that are copied and moved: what the model does, said of the cells. A place in an array that lies in a box, by an index of which only bounds are known; what leaves a function as a box's cells beside a value. Calls that are handed boxes which hold slices over other boxes, and leave such boxes. Contracts of calls with boxes that hold slices into boxes: by a walk; at a call; a cut that takes the room away. A box of which less is told; a slice without items that may lie anywhere; a cut that takes the room away; what leaves a region of which the order is drawn. Calls that are given a slice over a block and give one; calls that write a block in place. An append of nothing onto nothing; calls that are handed no box. Calls of a machine's methods that leave its blocks where they are. -/
import Derived.Test.YtegjgkkcgalonaaDoorLibC
import Derived.ArgAppend
import Derived.Lib.AppendZerosOnto
import Derived.Deep.AppendSrc
import Derived.Laws.IdiomCopy
import Derived.Lib.SliceRun
import Derived.Laws.Externs
set_option linter.unusedSimpArgs false
set_option linter.unusedVariables false
namespace Go.Abs

/-- Lists, environments and boxes, each value turned into one that it may be taken for. -/
def PtL (T : AV → AV → Prop) : List AV → List AV → Prop
  | [], [] => True
  | a :: l, b :: m => T a b ∧ PtL T l m
  | _, _ => False
def PtE (T : AV → AV → Prop) (env : Env) : Env → Prop
  | [] => True
  | (t, a') :: l => (∃ a, getK t env = some a ∧ T a a') ∧ PtE T env l
def PtB (T : AV → AV → Prop) (bs : List (Nat × List AV)) : List (Nat × List AV) → Prop
  | [] => True
  | (k, cells') :: l => (∃ cells, getK k bs = some cells ∧ PtL T cells cells') ∧ PtB T bs l
/-- What a value is when the box, of such rows, is frozen. -/
def Frz (key s : Nat) (rows : List CV) (a a' : AV) : Prop := a' = a ∨ ∃ n, a = .bsl key 0 s n ∧ n = rows.length ∧ a' = .c (.sl s rows)
/-- A slice without rows is one of rows of any width. -/
def Nil (a a' : AV) : Prop := a' = a ∨ ∃ s0 s1, (a = .c (.sl s0 []) ∨ a = .own .exact s0 []) ∧ a' = .c (.sl s1 [])

section
variable {P : Program} {X : Ctx} {f : FuncId} {n : Nat} {β : Base} {R : Ending → World → Prop} {K : List Item} {env : Env}

theorem Nil.rel : ∀ (g : Gh) (a a' : AV) (v : Value), Nil a a' → RelA g a v → RelA g a' v := by
  rintro g a a' v (rfl | ⟨s0, s1, rfl | rfl, rfl⟩) hr
  · exact hr
  · simp only [RelA, Rel] at hr ⊢
    obtain ⟨base, len, cap, e, h1, h2, _⟩ := hr
    exact ⟨base, len, cap, e, h1, h2, .inl trivial⟩
  · simp only [RelA, Rel] at hr ⊢
    obtain ⟨base, len, cap, e, h1, h2, _⟩ := hr
    exact ⟨base, len, cap, e, h1, h2, .inl trivial⟩
theorem Nil.one : ∀ (a a' : AV), Nil a a' → a.one = true → a'.one = true := by
  rintro a a' (rfl | ⟨s0, s1, rfl | rfl, rfl⟩) h
  · exact h
  · rfl
  · rfl
end
end Go.Abs

namespace Go.Abs

/-- The state of such a call: one box, or none. -/
def gSt (k : Nat) : Option (List CV) → St
  | none => ⟨[], [], []⟩
  | some cells => ⟨[(k, cells.map AV.c)], [], [k]⟩
theorem gSt_get {k kk : Nat} {bi : Option (List CV)} {cs : List AV} (h : getK kk (gSt k bi).boxes = some cs) : kk = k ∧ ∃ cells, bi = some cells ∧ cs = cells.map AV.c := by
  cases bi with
  | none => simp [gSt, getK] at h
  | some cells =>
    simp only [gSt, getK_cons] at h
    split at h
    · rename_i e; simp at h; exact ⟨e, cells, rfl, h.symm⟩
    · simp [getK] at h
theorem gSt_toks (k : Nat) (bi : Option (List CV)) : (gSt k bi).toks = [] := by cases bi <;> rfl

def GR (β : Base) (r : AV) (bo : Option (List CV)) : Ending → World → Prop := fun e w' =>
  ∃ u g', e = .returned u ∧ RelA g' r u ∧ Inv w' g' (gSt 999999 bo) ∧ Keep β.w β.g β.σ w' g' (gSt 999999 bo)
/-- A call with a box (by the name 1000000) or none gives such a result, which may be a slice over a box (by the name 999999). -/
def GCalls (P : Program) (X : Ctx) (f : FuncId) (bi : Option (List CV)) (args : List AV) (r : AV) (bo : Option (List CV)) : Prop :=
  Enters P f ∧ ∀ (g : Gh) (w : World) (vs : List Value), Inv w g (gSt 1000000 bi) → GlobOk X g.G → RelAL g args vs →
    Calls P f vs.toArray w (GR ⟨w, g, gSt 1000000 bi⟩ r bo)

theorem convL_cs {ρ : Ren} {ts : List (Nat × Nat)} : ∀ (cs : List CV), ConvL ρ ts (cs.map AV.c) (cs.map AV.c)
  | [] => by simp [ConvL]
  | c :: cs => by
    simp only [List.map_cons, ConvL]
    exact ⟨_, _, rfl, by simp [Conv], convL_cs cs⟩
/-- The names at the call's beginning. -/
def renG (key : Option Nat) : Ren := ⟨fun k => if k = 1000000 then key else none, fun _ => none⟩
theorem enterG {w : World} {g : Gh} {σ : St} (hinv : Inv w g σ) (key : Option Nat) (bi : Option (List CV)) (h : ∀ cells, bi = some cells → ∃ kk, key = some kk ∧ getK kk σ.boxes = some (cells.map AV.c)) (h0 : bi = none → key = none) :
    Inv w (g.ren (renG key)) (gSt 1000000 bi) := by
  refine (hinv.ren (renG key) _ ?_ ?_ ?_ ?_ ?_).1
  · intro k cs e
    obtain ⟨rfl, cells, e1, rfl⟩ := gSt_get e
    obtain ⟨kk, e2, e3⟩ := h cells e1
    exact ⟨kk, _, by simp [renG, e2], e3, convL_cs _⟩
  · intro k k' old e e'
    simp only [renG] at e e'
    split at e
    · split at e'
      · omega
      · simp at e'
    · simp at e
  · intro k n e
    rw [gSt_toks] at e; simp [getK] at e
  · intro k k' m m' old e; simp [renG] at e
  · intro k e
    simp only [renG, ne_eq, not_true, or_false] at e
    by_cases hk : k = 1000000
    · subst hk
      cases bi with
      | none => simp [h0 rfl] at e
      | some cells => simp [gSt]
    · simp [hk] at e

/-- Back behind such a call, without what it gives. -/
theorem backG {w w' : World} {g g0 g' : Gh} {σ σ0 : St} (hinv : Inv w g σ) (h0G : g0.G = g.G) (h0t : σ0.toks = []) (key : Option Nat)
    (h0 : ∀ k cs b, getK k σ0.boxes = some cs → g0.box k = some b → ∃ kk cs', key = some kk ∧ getK kk σ.boxes = some cs' ∧ g.box kk = some b)
    {bo : Option (List CV)} (hi' : Inv w' g' (gSt 999999 bo)) (hk : Keep w g0 σ0 w' g' (gSt 999999 bo)) (σd : St)
    (hd : (key = none ∧ σd = σ) ∨ ∃ kk, key = some kk ∧ σd = σ.dropBox kk) :
    let g1 : Gh := ⟨g'.G, g.box, g.tok, g.room⟩
    Inv w' g1 σd ∧ Keep w g σ w' g1 σd ∧ g.le g1 ∧
      ∀ cells, bo = some cells → ∃ b, g'.box 999999 = some b ∧ b < w'.heap.size ∧ (∀ o, g'.G b o = none) ∧ CellsW w' g1 b 0 (cells.map AV.c) ∧
        (∀ k cs, getK k σd.boxes = some cs → g.box k ≠ some b) ∧ (∀ k n b' lo hi, getK k σd.toks = some n → g.tok k = some (n, some (b', lo, hi)) → b' ≠ b) ∧
        (w.heap.size ≤ b ∨ ∃ k0 cs0, getK k0 σ.boxes = some cs0 ∧ g.box k0 = some b) ∧ ∀ o, (o < g'.room 999999 → ∃ u, w'.cell? ⟨b, o, none⟩ = some u) ∧ w'.frozen? ⟨b, o, none⟩ = false := by
  intro g1
  have own : ∀ b o, Owned g0 σ0 b o → ∃ kk cs', key = some kk ∧ getK kk σ.boxes = some cs' ∧ g.box kk = some b := by
    rintro b o (⟨k, cs, e1, e2⟩ | ⟨k, n, lo, hi, e1, _⟩)
    · exact h0 k cs b e1 e2
    · rw [h0t] at e1; simp [getK] at e1
  have ownσ : ∀ b o, Owned g0 σ0 b o → Owned g σ b o := by
    intro b o h
    obtain ⟨kk, cs', _, e1, e2⟩ := own b o h
    exact .inl ⟨kk, cs', e1, e2⟩
  have getd : ∀ k cs, getK k σd.boxes = some cs → getK k σ.boxes = some cs ∧ key ≠ some k := by
    intro k cs e
    rcases hd with ⟨rfl, rfl⟩ | ⟨kk, rfl, rfl⟩
    · exact ⟨e, by simp⟩
    · simp only [St.dropBox, getK_delK] at e
      split at e
      · simp at e
      · rename_i hne
        exact ⟨e, by simp; exact fun h => hne h.symm⟩
  have tokd : σd.toks = σ.toks := by rcases hd with ⟨_, rfl⟩ | ⟨kk, _, rfl⟩ <;> rfl
  have usedd : σd.used = σ.used := by rcases hd with ⟨_, rfl⟩ | ⟨kk, _, rfl⟩ <;> rfl
  have nown : ∀ k cs b, getK k σd.boxes = some cs → g.box k = some b → ∀ o, ¬ Owned g0 σ0 b o := by
    intro k cs b e hb o ho
    obtain ⟨kk, cs', e1, e2, e3⟩ := own b o ho
    obtain ⟨e4, e5⟩ := getd k cs e
    have := hinv.boxinj k kk cs cs' b e4 e2 hb e3
    subst this; exact e5 e1
  have hle : g.le g1 := ⟨fun b o v h => hk.le b o v (by rw [h0G]; exact h), fun _ _ h => h, fun _ _ _ => rfl, fun k hw reg h => ⟨hw, reg, h, Nat.le_refl _, fun _ => rfl⟩⟩
  have hnone : ∀ b o, b < w.heap.size → ¬ Owned g0 σ0 b o → g.G b o = none → g'.G b o = none := by
    intro b o hb hno h
    cases hg : g'.G b o with
    | none => rfl
    | some v =>
      rcases hk.new b o v hg with h' | h' | h'
      · rw [h0G, h] at h'; simp at h'
      · omega
      · exact absurd h' hno
  have ntok : ∀ k n b lo hi, getK k σ.toks = some n → g.tok k = some (n, some (b, lo, hi)) → ∀ o, ¬ Owned g0 σ0 b o := by
    intro k n b lo hi e e1 o ho
    obtain ⟨reg, f1, f2⟩ := hinv.tok k n e
    rw [e1] at f1; simp at f1; subst f1
    obtain ⟨kk, cs', _, e2, e3⟩ := own b o ho
    exact (f2 b lo hi rfl).2.2 kk cs' e2 e3
  refine ⟨⟨hi'.imm, ?_, ?_, ?_, ?_, ?_, ?_⟩, ⟨hk.os, hk.tape, hk.output, hk.size, fun b hb hno => hk.block b hb (fun o ho => hno o (ownσ b o ho)), fun b o hb hno => hk.kept b o hb (fun ho => hno (ownσ b o ho)), ?_, ?_, ?_, ?_, ?_⟩, hle, ?_⟩
  · intro k cs e
    obtain ⟨e0, _⟩ := getd k cs e
    obtain ⟨b, b1, b2, b3, b4⟩ := hinv.box k cs e0
    have hno := nown k cs b e b1
    exact ⟨b, b1, Nat.lt_of_lt_of_le b2 hk.size, fun o => hnone b o b2 (hno o) (b3 o), (CellsW.of_same (fun o => hk.kept b o b2 (hno o)) b4).mono hle⟩
  · intro k k' cs cs' b e e'
    exact hinv.boxinj k k' cs cs' b (getd k cs e).1 (getd k' cs' e').1
  · intro k n e
    rw [tokd] at e
    obtain ⟨reg, h1, h2⟩ := hinv.tok k n e
    refine ⟨reg, h1, fun b lo hi hr => ?_⟩
    obtain ⟨h3, h4, h5⟩ := h2 b lo hi hr
    subst hr
    refine ⟨Nat.lt_of_lt_of_le h3 hk.size, fun o ho1 ho2 => ?_, fun k' cs e' => h5 k' cs (getd k' cs e').1⟩
    obtain ⟨h6, ⟨u, h7⟩, h8⟩ := h4 o ho1 ho2
    have hno := ntok k n b lo hi e h1 o
    exact ⟨hnone b o h3 hno h6, ⟨u, (hk.kept b o h3 hno).1.trans h7⟩, (hk.kept b o h3 hno).2.trans h8⟩
  · rw [tokd]; exact hinv.tokinj
  · rw [usedd]; exact hinv.used
  · intro k cs b e hb o
    obtain ⟨e0, _⟩ := getd k cs e
    obtain ⟨b', b1, b2, _⟩ := hinv.box k cs e0
    rw [hb] at b1; cases b1
    have hno := nown k cs b e hb o
    obtain ⟨q1, q2⟩ := hinv.room k cs b e0 hb o
    exact ⟨fun ho => (q1 ho).imp fun u hu => (hk.kept b o b2 hno).1.trans hu, (hk.kept b o b2 hno).2.trans q2⟩
  · exact hle.1
  · intro b o v h
    rcases hk.new b o v h with h' | h' | h'
    · rw [h0G] at h'; exact .inl h'
    · exact .inr (.inl h')
    · exact .inr (.inr (ownσ b o h'))
  · intro k cs b e hb
    exact .inr ⟨k, cs, (getd k cs e).1, hb⟩
  · intro k n b lo hi e e1
    rw [tokd] at e
    exact .inr ⟨k, n, lo, hi, e, e1, Nat.le_refl _, Nat.le_refl _⟩
  · intro k _ e
    cases hc : getK k σd.boxes with
    | none => exact absurd hc e
    | some cs => exact ⟨by rw [(getd k cs hc).1]; simp, rfl, rfl⟩
  · rintro cells rfl
    have hg : getK 999999 (gSt 999999 (some cells)).boxes = some (cells.map AV.c) := by simp [gSt, getK_cons]
    obtain ⟨b, b1, b2, b3, b4⟩ := hi'.box 999999 _ hg
    have hor := hk.boxes 999999 _ b hg b1
    refine ⟨b, b1, b2, b3, ?_, ?_, ?_, ?_, hi'.room 999999 _ b hg b1⟩
    · have : ∀ (l : List CV) (o : Nat), CellsW w' g' b o (l.map AV.c) → CellsW w' g1 b o (l.map AV.c) := by
        intro l
        induction l with
        | nil => intro o _; trivial
        | cons c l ih =>
          intro o h
          obtain ⟨⟨u, h1, h2, h3⟩, h4, h5⟩ := h
          exact ⟨⟨u, h1, by simpa only [RelA] using h2, h3⟩, h4, ih _ h5⟩
      exact this _ _ b4
    · intro k cs e hb
      obtain ⟨e0, e1⟩ := getd k cs e
      obtain ⟨b', f1, f2, _⟩ := hinv.box k cs e0
      rw [hb] at f1; cases f1
      rcases hor with h | ⟨k0, cs0, h1, h2⟩
      · omega
      · obtain ⟨kk, cs', h3, h4, h5⟩ := h0 k0 cs0 b h1 h2
        have := hinv.boxinj k kk cs cs' b e0 h4 hb h5
        subst this; exact e1 h3
    · rintro k n b' lo hi e e1 rfl
      rw [tokd] at e
      obtain ⟨reg, f1, f2⟩ := hinv.tok k n e
      rw [e1] at f1; simp at f1; subst f1
      obtain ⟨f3, _, f5⟩ := f2 _ lo hi rfl
      rcases hor with h | ⟨k0, cs0, h1, h2⟩
      · omega
      · obtain ⟨kk, cs', h3, h4, h5⟩ := h0 k0 cs0 _ h1 h2
        exact f5 kk cs' h4 h5
    · rcases hor with h | ⟨k0, cs0, h1, h2⟩
      · exact .inl h
      · obtain ⟨kk, cs', h3, h4, h5⟩ := h0 k0 cs0 b h1 h2
        exact .inr ⟨kk, cs', h4, h5⟩

/-- A box for a block that nobody has. -/
theorem putBox {w0 w : World} {g0 g : Gh} {σ0 σ : St} (hinv : Inv w g σ) (hk : Keep w0 g0 σ0 w g σ) {d : Nat} (hd : d ∉ σ.used) (hd1 : d < 1000000) {b R : Nat} {cells : List AV} (hb : b < w.heap.size) (hG : ∀ o, g.G b o = none) (hc : CellsW w g b 0 cells)
    (hbx : ∀ k cs, getK k σ.boxes = some cs → g.box k ≠ some b) (htk : ∀ k n b' lo hi, getK k σ.toks = some n → g.tok k = some (n, some (b', lo, hi)) → b' ≠ b)
    (hold : w0.heap.size ≤ b ∨ ∃ k0 cs0, getK k0 σ0.boxes = some cs0 ∧ g0.box k0 = some b) (hroom : ∀ o, (o < R → ∃ u, w.cell? ⟨b, o, none⟩ = some u) ∧ w.frozen? ⟨b, o, none⟩ = false) :
    let g' : Gh := ⟨g.G, fun k => if k = d then some b else g.box k, g.tok, fun k => if k = d then R else g.room k⟩
    Inv w g' (σ.addBox d cells) ∧ Keep w0 g0 σ0 w g' (σ.addBox d cells) ∧ g.le g' := by
  intro g'
  have hbn : g.box d = none := by
    cases h : g.box d with
    | none => rfl
    | some x => exact absurd (hinv.used d (.inl (by simp [h]))) hd
  have hle : g.le g' := by
    refine ⟨Imm.le.refl _, fun k x h => ?_, fun k x h => ?_, fun k hw reg h => ⟨hw, reg, h, Nat.le_refl _, fun _ => rfl⟩⟩
    · by_cases hkk : k = d
      · subst hkk; rw [hbn] at h; simp at h
      · simp [g', hkk, h]
    · by_cases hkk : k = d
      · subst hkk; rw [hbn] at h; simp at h
      · simp [g', hkk]
  have hget : ∀ k cs, getK k (σ.addBox d cells).boxes = some cs → (k = d ∧ cs = cells) ∨ (k ≠ d ∧ getK k σ.boxes = some cs) := by
    intro k cs e
    simp only [St.addBox, getK_cons] at e
    split at e
    · rename_i h2; simp at e; exact .inl ⟨h2, e.symm⟩
    · rename_i h2; exact .inr ⟨fun h => h2 h, e⟩
  refine ⟨⟨hinv.imm, ?_, ?_, ?_, hinv.tokinj, ?_, ?_⟩, ⟨hk.os, hk.tape, hk.output, hk.size, hk.block, hk.kept, hk.le, hk.new, ?_, hk.toks, ?_⟩, hle⟩
  · intro k cs e
    rcases hget k cs e with ⟨rfl, rfl⟩ | ⟨h1, h2⟩
    · exact ⟨b, by simp [g'], hb, hG, hc.mono hle⟩
    · obtain ⟨b', f1, f2, f3, f4⟩ := hinv.box k cs h2
      exact ⟨b', by simp [g', h1, f1], f2, f3, f4.mono hle⟩
  · intro k k' cs cs' b' e e' e1 e2
    simp only [g'] at e1 e2
    rcases hget k cs e with ⟨rfl, rfl⟩ | ⟨h1, h2⟩
    · rcases hget k' cs' e' with ⟨rfl, rfl⟩ | ⟨h1', h2'⟩
      · rfl
      · rw [if_pos rfl] at e1; simp at e1; subst e1
        rw [if_neg h1'] at e2
        exact absurd e2 (hbx k' cs' h2')
    · rw [if_neg h1] at e1
      rcases hget k' cs' e' with ⟨rfl, rfl⟩ | ⟨h1', h2'⟩
      · rw [if_pos rfl] at e2; simp at e2; subst e2
        exact absurd e1 (hbx k cs h2)
      · rw [if_neg h1'] at e2
        exact hinv.boxinj k k' cs cs' b' h2 h2' e1 e2
  · intro k n e
    obtain ⟨reg, e1, e2⟩ := hinv.tok k n e
    refine ⟨reg, e1, fun b' lo hi hr' => ?_⟩
    obtain ⟨e3, e4, e5⟩ := e2 b' lo hi hr'
    subst hr'
    have hbb := htk k n b' lo hi e e1
    refine ⟨e3, e4, fun k' cs e' => ?_⟩
    simp only [g']
    rcases hget k' cs e' with ⟨rfl, rfl⟩ | ⟨h1, h2⟩
    · rw [if_pos rfl]; simp; exact fun h => hbb h.symm
    · rw [if_neg h1]; exact e5 k' cs h2
  · intro k e
    show k ∈ d :: σ.used
    by_cases hkk : k = d
    · simp [hkk]
    · simp only [List.mem_cons]; right; apply hinv.used k; simpa [g', hkk] using e
  · intro k cs b' e e1 o
    simp only [g'] at e1 ⊢
    rcases hget k cs e with ⟨rfl, rfl⟩ | ⟨h1, h2⟩
    · rw [if_pos rfl] at e1; rw [if_pos rfl]; simp at e1; subst e1
      exact hroom o
    · rw [if_neg h1] at e1; rw [if_neg h1]
      exact hinv.room k cs b' h2 e1 o
  · intro k cs b' e e1
    simp only [g'] at e1
    rcases hget k cs e with ⟨rfl, rfl⟩ | ⟨h1, h2⟩
    · rw [if_pos rfl] at e1; simp at e1; subst e1; exact hold
    · rw [if_neg h1] at e1; exact hk.boxes k cs b' h2 e1
  · intro k hk0 e
    cases hc0 : getK k (σ.addBox d cells).boxes with
    | none => exact absurd hc0 e
    | some cs =>
      rcases hget k cs hc0 with ⟨rfl, rfl⟩ | ⟨h1, h2⟩
      · omega
      · obtain ⟨f1, f2, f3⟩ := hk.ids k hk0 (by rw [h2]; simp)
        exact ⟨f1, by simp [g', h1, f2], by simp [g', h1, f3]⟩

section
variable {P : Program} {X : Ctx}
theorem dropBox_eff (key : Nat) : EffOk (fun σ => σ.dropBox key) ⟨[], [key]⟩ where
  out := fun σ k hk => by
    simp at hk
    refine ⟨?_, rfl, Iff.rfl⟩
    simp only [St.dropBox, getK_delK]
    rw [if_neg hk]
  same := fun σ σ1 h k hk => by
    obtain ⟨h1, h2, h3⟩ := h k (.inr hk)
    refine ⟨?_, h2, h3⟩
    simp only [St.dropBox, getK_delK]
    split
    · rfl
    · exact h1

/-- A call with closed arguments that gives a slice over a block of its own. -/
theorem OpSem.callgN {o : Oper} {env : Env} {σ : St} {f : FuncId} {args : Array Operand} {ats : Array TypeId} (ho : o.op = .call { callee := .value (.func f), args := args, argTypes := ats })
    {d : Nat} (hd1 : d < 1000000) (hu : mem d σ.used = false) {cvs : List CV} (ha : capsOf (aeval X env) args.toList = some cvs) {s n : Nat} {cells : List CV} (hq : GCalls P X f none (cvs.map AV.c) (.bsl 999999 0 s n) (some cells)) :
    OpSem P X o env σ (.bsl d 0 s n) (fun σ => σ.addBox d (cells.map AV.c)) ⟨[], [d]⟩ := by
  intro env1 σ1 w g a next Q h1 h2 hinv hglob henv hnext
  have ha' : capsOf (aeval X env1) args.toList = some cvs := by
    rw [capsOf_congr _ (fun x hx => h1 x (by rw [ho]; simp only [Op.operands, Call.operands, Array.toList_append, List.mem_append]; exact .inr hx))]; exact ha
  have hrel := capsOf_ok (g := g) (ev := a.eval) (fun x v hx => aeval_ok henv hglob hx) ha'
  have hrun : (execOp a.eval o).run P w = .ok (.enter f (args.map a.eval)) w := by
    obtain ⟨dst, op, type, pos, after, guard⟩ := o
    simp only at ho; subst ho
    simp [execOp, resolve, Deferred.ofValue, invoke, Act.eval, hq.1 _ w]
  unfold Oper.wp
  rw [hrun, Oper.upon_enter]
  have hin := enterG hinv none none (fun _ h => by cases h) (fun _ => rfl)
  have := hq.2 (g.ren (renG none)) w (args.toList.map a.eval) hin hglob (relAL_c (g := g.ren (renG none)) hrel)
  rw [show (args.toList.map a.eval).toArray = args.map a.eval from by rw [← Array.toList_map]] at this
  refine this.mono ?_
  rintro e w' ⟨u, g', rfl, h3, h4, h5⟩
  obtain ⟨k1, k2, k3, k4⟩ := backG (g0 := g.ren (renG none)) (σ0 := gSt 1000000 none) hinv rfl (gSt_toks _ _) none (fun k cs b e => by simp [gSt, getK] at e) h4 h5 σ1 (.inl ⟨rfl, rfl⟩)
  obtain ⟨b, c1, c2, c3, c4, c5, c6, c7, c8⟩ := k4 cells rfl
  have hdu : d ∉ σ1.used := fun h => not_mem_used hu ((h2 d (.inr (by simp))).2.2.1 h)
  obtain ⟨p1, p2, p3⟩ := putBox k1 k2 hdu hd1 c2 c3 c4 c5 c6 c7 c8
  refine hnext u w' _ ?_ p1 p2 (k3.trans p3)
  simp only [RelA] at h3 ⊢
  obtain ⟨b', cap, oo, e1, e2, e3, e4, e5⟩ := h3
  rw [c1] at e1; cases e1
  exact ⟨b, cap, oo, by simp, e2, e3, by simpa using e4, e5⟩

/-- A call that takes a slice over a box, and gives something closed. -/
theorem OpSem.callgC {o : Oper} {env : Env} {σ : St} {f : FuncId} {args : Array Operand} {ats : Array TypeId} (ho : o.op = .call { callee := .value (.func f), args := args, argTypes := ats })
    {x : Operand} {rest : List Operand} (hargs : args.toList = x :: rest) {key s0 n0 : Nat} (hx : aeval X env x = some (.bsl key 0 s0 n0)) {cvs : List CV} (ha : capsOf (aeval X env) rest = some cvs)
    {cells : List CV} (hkey : getK key σ.boxes = some (cells.map AV.c)) {v : CV} (hq : GCalls P X f (some cells) (.bsl 1000000 0 s0 n0 :: cvs.map AV.c) (.c v) none) :
    OpSem P X o env σ (.c v) (fun σ => σ.dropBox key) ⟨[], [key]⟩ := by
  intro env1 σ1 w g a next Q h1 h2 hinv hglob henv hnext
  have hopd : ∀ y ∈ args.toList, y ∈ o.op.operands.toList := by
    intro y hy
    rw [ho]; simp only [Op.operands, Call.operands, Array.toList_append, List.mem_append]; exact .inr hy
  have ha' : capsOf (aeval X env1) rest = some cvs := by
    rw [capsOf_congr _ (fun y hy => h1 y (hopd y (by rw [hargs]; exact List.mem_cons_of_mem _ hy)))]; exact ha
  have hx' : aeval X env1 x = some (.bsl key 0 s0 n0) := by rw [h1 x (hopd x (by simp [hargs]))]; exact hx
  have hrel := capsOf_ok (g := g) (ev := a.eval) (fun x v hx => aeval_ok henv hglob hx) ha'
  have hrx := aeval_ok (a := a) henv hglob hx'
  have hkey' : getK key σ1.boxes = some (cells.map AV.c) := by rw [(h2 key (.inr (by simp))).1]; exact hkey
  have hrun : (execOp a.eval o).run P w = .ok (.enter f (args.map a.eval)) w := by
    obtain ⟨dst, op, type, pos, after, guard⟩ := o
    simp only at ho; subst ho
    simp [execOp, resolve, Deferred.ofValue, invoke, Act.eval, hq.1 _ w]
  unfold Oper.wp
  rw [hrun, Oper.upon_enter]
  have hin := enterG hinv (some key) (some cells) (fun _ h => by cases h; exact ⟨key, rfl, hkey'⟩) (fun h => by cases h)
  have hgr : ∀ kk, (g.ren (renG (some key))).box kk = if kk = 1000000 then g.box key else none := by
    intro kk
    by_cases h : kk = 1000000 <;> simp [Gh.ren, renG, h]
  have := hq.2 (g.ren (renG (some key))) w (args.toList.map a.eval) hin hglob (by
    rw [hargs]
    simp only [List.map_cons, RelAL]
    refine ⟨_, _, rfl, ?_, relAL_c (g := g.ren (renG (some key))) hrel⟩
    simp only [RelA] at hrx ⊢
    obtain ⟨b, cap, oo, e1, e2, e3, e4, e5⟩ := hrx
    exact ⟨b, cap, oo, by rw [hgr]; simpa using e1, e2, e3, by simpa [Gh.ren, renG] using e4, e5⟩)
  rw [show (args.toList.map a.eval).toArray = args.map a.eval from by rw [← Array.toList_map]] at this
  refine this.mono ?_
  rintro e w' ⟨u, g', rfl, h3, h4, h5⟩
  obtain ⟨k1, k2, k3, _⟩ := backG (g0 := g.ren (renG (some key))) (σ0 := gSt 1000000 (some cells)) hinv rfl (gSt_toks _ _) (some key) (fun k cs b e e1 => by
    obtain ⟨rfl, _⟩ := gSt_get e
    rw [hgr] at e1
    exact ⟨key, _, rfl, hkey', by simpa using e1⟩) h4 h5 (σ1.dropBox key) (.inr ⟨key, rfl, rfl⟩)
  exact hnext u w' _ (by simpa only [RelA] using h3) k1 k2 k3
end

section
variable {P : Program} {X : Ctx} {ops : Array Oper} {o : Oper} {rest : List Oper} {env : Env} {acc : List Fp} {Q : Env → St → List Fp → Prop} {bs : List (Nat × List AV)} {ts : List (Nat × Nat)} {us : List Nat} {σ : St}
theorem AOps.callgN (kn : List Nat) (hg : aguard ops.toList kn env o = some true) {f : FuncId} {args : Array Operand} {ats : Array TypeId} (ho : o.op = .call { callee := .value (.func f), args := args, argTypes := ats })
    {d : Nat} (hd : o.dst = some d) (hd1 : Nat.blt d 1000000 = true) (hu : mem d us = false) {cvs : List CV} (ha : capsOf (aeval X env) args.toList = some cvs) {s n : Nat} {cells : List CV} {avs0 : List AV} (hq : GCalls P X f none avs0 (.bsl 999999 0 s n) (some cells)) (hav : avs0 = cvs.map AV.c)
    (k : AOps P X ops rest ((d, .bsl d 0 s n) :: env) ⟨(d, cells.map AV.c) :: bs, ts, d :: us⟩ (⟨[], [d]⟩ :: acc) Q) : AOps P X ops (o :: rest) env ⟨bs, ts, us⟩ acc Q := by
  subst hav
  exact AOps.step (guard_in hg) (OpSem.callgN (σ := ⟨bs, ts, us⟩) ho (Nat.blt_eq.mp hd1) hu ha hq) (addBox_eff d _) (by rw [hd]; exact k)
theorem AOps.callgC (kn : List Nat) (hg : aguard ops.toList kn env o = some true) {f : FuncId} {args : Array Operand} {ats : Array TypeId} (ho : o.op = .call { callee := .value (.func f), args := args, argTypes := ats })
    {x : Operand} {rst : List Operand} (hargs : args.toList = x :: rst) {d : Nat} (hd : o.dst = some d) {key s0 n0 : Nat} (hx : aeval X env x = some (.bsl key 0 s0 n0)) {cvs : List CV} (ha : capsOf (aeval X env) rst = some cvs)
    {cells : List CV} (hkey : getK key bs = some (cells.map AV.c)) {v : CV} {avs0 : List AV} (hq : GCalls P X f (some cells) avs0 (.c v) none) (hav : avs0 = .bsl 1000000 0 s0 n0 :: cvs.map AV.c) {bs' : List (Nat × List AV)} (hbs : delK key bs = bs')
    (k : AOps P X ops rest ((d, .c v) :: env) ⟨bs', ts, us⟩ (⟨[], [key]⟩ :: acc) Q) : AOps P X ops (o :: rest) env ⟨bs, ts, us⟩ acc Q := by
  subst hav hbs
  exact AOps.step (guard_in hg) (OpSem.callgC (σ := ⟨bs, ts, us⟩) ho hargs hx ha hkey hq) (dropBox_eff key) (by rw [hd]; exact k)
end
end Go.Abs

namespace Go.Abs

theorem GCalls.of {P : Program} {X : Ctx} {f : FuncId} {fn : Func} {c : Code} {bi bo : Option (List CV)} {args : List AV} {r : AV} (hf : P.funcs[f]? = some fn) (hb : fn.body = some c) (he : Enters P f)
    (hn : args.length ≤ fn.ntmps) (env : Env) (σ : St) (henv : env = (args.zipIdx.map fun (v, i) => (i, v))) (hst : gSt 1000000 bi = σ)
    (h : ∀ β, AK P X f fn.ntmps β (GR β r bo) [.code c] env σ) : GCalls P X f bi args r bo := by
  subst hst
  refine ⟨he, fun g w vs hinv hglob hrel cs => ?_⟩
  have hlen := (RelAL.get hrel).1
  have hL : Live X ⟨w, g, gSt 1000000 bi⟩ fn.ntmps env (gSt 1000000 bi) g w { tmps := vs.toArray ++ Array.replicate (fn.ntmps - vs.toArray.size) undef, defers := [] } := by
    refine ⟨hinv, hglob, ?_, Keep.refl _ _ _, ?_, rfl⟩
    · intro t a e
      subst henv
      have key : ∀ (l : List AV) (us : List Value) (k : Nat), RelAL g l us → getK t ((l.zipIdx k).map fun (v, i) => (i, v)) = some a → k ≤ t ∧ ∃ u, us[t - k]? = some u ∧ RelA g a u := by
        intro l
        induction l with
        | nil => intro us k _ e; simp [getK] at e
        | cons v l ih =>
          intro us k hr e
          simp only [RelAL] at hr
          obtain ⟨u, us, rfl, h1, h2⟩ := hr
          simp only [List.zipIdx_cons, List.map_cons, getK_cons] at e
          split at e
          · rename_i ht; subst ht; simp at e; subst e
            exact ⟨Nat.le_refl _, u, by simp, h1⟩
          · rename_i ht
            obtain ⟨h3, u', h4, h5⟩ := ih us (k + 1) h2 e
            refine ⟨by omega, u', ?_, h5⟩
            rw [show t - k = (t - (k + 1)) + 1 from by omega]; simpa using h4
      obtain ⟨_, u, h4, h5⟩ := key args vs 0 hrel e
      simp at h4
      have hlt : t < vs.length := (List.getElem?_eq_some_iff.1 h4).1
      have : (vs.toArray ++ Array.replicate (fn.ntmps - vs.toArray.size) undef).getD t undef = u := by
        rw [Array.getD_eq_getD_getElem?, Array.getElem?_append_left (by simpa using hlt)]
        simp [h4]
      rw [this]; exact h5
    · simp; omega
  obtain ⟨e, w', fr, h1, h4, h5, h6⟩ := h ⟨w, g, gSt 1000000 bi⟩ g w _ cs hL
  have henter : Frame.enter P f vs.toArray .normal =
      (top f).at { tmps := vs.toArray ++ Array.replicate (fn.ntmps - vs.toArray.size) undef, defers := [] } [.code c] := by
    simp [Frame.enter, Frame.at, hf, hb, top]
  exact ⟨_, w', fr, h1, by rw [henter]; exact h4, h5, h6⟩

section
variable {P : Program} {X : Ctx} {f : FuncId} {n : Nat} {β : Base} {K : List Item} {env : Env}
/-- Leaving with a slice over a box. -/
theorem AK.retG (hX : CtxOk P X) {fn : Func} (hf : P.funcs[f]? = some fn) {bs : List (Nat × List AV)} {ts : List (Nat × Nat)} {us : List Nat} {key s m : Nat} {cells : List CV} {cs : List AV}
    (hr : ares X bs env fn.results.toList = some [.bsl key 0 s m]) (hb : getK key bs = some cs) (hcs : cs = cells.map AV.c) : AK P X f n β (GR β (.bsl 999999 0 s m) (some cells)) (.code .ret :: K) env ⟨bs, ts, us⟩ := by
  subst hcs
  intro g w a cs hL
  obtain ⟨u, h3, h4⟩ := ares_results hX hL hr
  obtain ⟨i1, i2⟩ := hL.inv.ren ⟨fun k => if k = 999999 then some key else none, fun _ => none⟩ (gSt 999999 (some cells)) (by
      intro k c e
      obtain ⟨rfl, cl, e1, rfl⟩ := gSt_get e
      cases e1
      exact ⟨key, _, by simp, hb, convL_cs _⟩) (by
      intro k k' old e e'
      simp only at e e'
      split at e
      · split at e'
        · omega
        · simp at e'
      · simp at e) (by
      intro k n e
      rw [gSt_toks] at e; simp [getK] at e) (by intro k k' m m' old e; simp at e) (by
      intro k e
      simp only [ne_eq, not_true, or_false] at e
      by_cases hk : k = 999999
      · subst hk; simp [gSt]
      · simp [hk] at e)
  refine ⟨.returned u, w, _, ⟨u, _, rfl, ?_, i1, hL.frame.trans (i2 fun k hk e => ?_)⟩, .one step_ret, rfl, rfl, hL.defers, rfl, fn, hf, h3⟩
  · simp only [RelA] at h4 ⊢
    obtain ⟨b, cap, oo, e1, e2, e3, e4, e5⟩ := h4
    exact ⟨b, cap, oo, by simpa [Gh.ren] using e1, e2, e3, by simpa [Gh.ren] using e4, e5⟩
  · cases hc : getK k (gSt 999999 (some cells)).boxes with
    | none => exact absurd hc e
    | some c => obtain ⟨rfl, _⟩ := gSt_get hc; omega
end

theorem relL_of_c {g : Gh} : ∀ {cs : List CV} {vs : List Value}, RelAL g (cs.map AV.c) vs → RelL g.G cs vs
  | [], vs, h => by simpa [RelAL, RelL] using h
  | c :: cs, vs, h => by
    simp only [List.map_cons, RelAL] at h
    obtain ⟨u, us, rfl, h1, h2⟩ := h
    simp only [RelL]
    exact ⟨u, us, rfl, by simpa only [RelA] using h1, relL_of_c h2⟩

/-- What is known of the world behind: one block may be another one, or there is a new one; it holds so much. -/
structure RawSl (w : World) (b : Nat) (w' : World) (b' : Nat) (news : List Value) : Prop where
  os : w'.os = w.os
  tape : w'.tape = w.tape
  output : w'.output = w.output
  size : w.heap.size ≤ w'.heap.size
  blk : b' = b ∨ w.heap.size ≤ b'
  cells : ∀ (j : Nat) u, news[j]? = some u → w'.cell? ⟨b', j, none⟩ = some u
  rest : ∀ b2, b2 < w.heap.size → b2 ≠ b → w'.heap[b2]? = w.heap[b2]?

theorem cell?_same {w w' : World} {b : Nat} (h : w'.heap[b]? = w.heap[b]?) (o : Nat) : w'.cell? ⟨b, o, none⟩ = w.cell? ⟨b, o, none⟩ := by
  unfold World.cell?; simp only [h]
theorem frozen?_same {w w' : World} {b : Nat} (h : w'.heap[b]? = w.heap[b]?) (o : Nat) : w'.frozen? ⟨b, o, none⟩ = w.frozen? ⟨b, o, none⟩ := by
  unfold World.frozen?; simp only [h]
theorem cell?_lt {w : World} {b o : Nat} {v : Value} (h : w.cell? ⟨b, o, none⟩ = some v) : b < w.heap.size := by
  rcases Nat.lt_or_ge b w.heap.size with h' | h'
  · exact h'
  · simp [World.cell?, Array.getElem?_eq_none h'] at h

/-- A contract of which the end is known by the world. -/
theorem GCalls.raw {P : Program} {X : Ctx} {f : FuncId} {cells : List CV} {s n0 : Nat} {cvs : List CV} (he : Enters P f) (h0 : 0 < n0) {rows : List CV} (hsh : ∀ r ∈ rows, r.cells.length = s) (hone : (flatC rows).all CV.one = true)
    (h : ∀ (w : World) (G : Imm) (b cap : Nat) (vs us : List Value), b < w.heap.size → (∀ o, G b o = none) → (∀ b o v, G b o = some v → w.cell? ⟨b, o, none⟩ = some v) → RelL G cells vs →
      (∀ (j : Nat) u, vs[j]? = some u → w.cell? ⟨b, j, none⟩ = some u) → cells.all CV.one = true → n0 ≤ cap → (∀ o, (o < cap * s → ∃ u, w.cell? ⟨b, o, none⟩ = some u) ∧ w.frozen? ⟨b, o, none⟩ = false) → RelL G cvs us →
      ∃ news, RelL G (flatC rows) news ∧ Calls P f (.slice (some ⟨b, 0, none⟩) n0 cap :: us).toArray w fun e w' => ∃ b' cap', e = .returned (.slice (some ⟨b', 0, none⟩) rows.length cap') ∧ rows.length ≤ cap' ∧ RawSl w b w' b' news) :
    GCalls P X f (some cells) (.bsl 1000000 0 s n0 :: cvs.map AV.c) (.c (.sl s rows)) none := by
  refine ⟨he, fun g w vs hinv hglob hrel => ?_⟩
  simp only [RelAL] at hrel
  obtain ⟨u, us, rfl, hr, hrest⟩ := hrel
  simp only [RelA] at hr
  obtain ⟨b, cap, o, e1, rfl, e2, e3, e4⟩ := hr
  have ho : o = some ⟨b, 0, none⟩ := by
    rcases e4 with e4 | e4
    · omega
    · exact e4
  subst ho
  have hg : getK 1000000 (gSt 1000000 (some cells)).boxes = some (cells.map AV.c) := by simp [gSt, getK_cons]
  obtain ⟨b', c1, c2, c3, c4⟩ := hinv.box 1000000 _ hg
  rw [e1] at c1; cases c1
  obtain ⟨vs, v1, v2, v3⟩ := cellsW_vals (tail := []) (by simpa using c4)
  have hroom := hinv.room 1000000 _ b hg e1
  obtain ⟨news, n1, hc⟩ := h w g.G b cap vs us c2 c3 hinv.imm v1 (fun j u hj => by have := v2 j u hj; rwa [Nat.zero_add] at this) v3 e2 (fun o => ⟨fun ho => (hroom o).1 (by omega), (hroom o).2⟩) (relL_of_c hrest)
  refine hc.mono ?_
  rintro e w' ⟨b', cap', rfl, hcap', R⟩
  let G' : Imm := fun bb o => if bb = b' then (if o < (flatC rows).length then w'.cell? ⟨b', o, none⟩ else none) else g.G bb o
  have hbne : ∀ bb o v, g.G bb o = some v → bb ≠ b ∧ bb < w.heap.size ∧ bb ≠ b' := by
    intro bb o v hv
    have h1 : bb ≠ b := by rintro rfl; rw [c3] at hv; simp at hv
    have h2 := cell?_lt (hinv.imm bb o v hv)
    refine ⟨h1, h2, ?_⟩
    rintro rfl
    rcases R.blk with h | h
    · exact h1 h
    · omega
  have hGle : g.G.le G' := by
    intro bb o v hv
    simp only [G', (hbne bb o v hv).2.2, if_false]; exact hv
  have himm : ∀ bb o v, G' bb o = some v → w'.cell? ⟨bb, o, none⟩ = some v := by
    intro bb o v hv
    simp only [G'] at hv
    split at hv
    · rename_i hb; subst hb
      split at hv
      · exact hv
      · simp at hv
    · obtain ⟨h1, h2, _⟩ := hbne bb o v hv
      rw [cell?_same (R.rest bb h2 h1)]
      exact hinv.imm bb o v hv
  have hnl := (RelL.get n1).1
  have hrows : RowsG G' s b' 0 rows := rowsG_iff.2 ⟨cellsG_of_vals (RelL.mono hGle _ _ n1) (fun j u hj => by
    have hlt : j < news.length := (List.getElem?_eq_some_iff.1 hj).1
    simp only [G', if_pos, Nat.zero_add]
    rw [if_pos (by omega)]
    exact R.cells j u hj) hone, hsh⟩
  refine ⟨_, ⟨G', fun _ => none, fun _ => none, fun _ => 0⟩, rfl, ?_, ?_, ?_⟩
  · simp only [RelA, Rel]
    exact ⟨_, _, _, rfl, rfl, hcap', .inr ⟨b', 0, rfl, hrows⟩⟩
  · exact ⟨himm, fun k cs e => by simp [gSt, getK] at e, fun k k' cs cs' b e => by simp [gSt, getK] at e, fun k n e => by simp [gSt, getK] at e, fun k k' n n' b lo hi lo' hi' e => by simp [gSt, getK] at e, fun k e => by simp at e, fun k cs b e => by simp [gSt, getK] at e⟩
  · have hown : ∀ b2, (∀ o, ¬ Owned g (gSt 1000000 (some cells)) b2 o) ∨ (∃ o, ¬ Owned g (gSt 1000000 (some cells)) b2 o) → b2 ≠ b := by
      rintro b2 h rfl
      have ho : ∀ o, Owned g (gSt 1000000 (some cells)) b2 o := fun o => .inl ⟨1000000, _, hg, e1⟩
      rcases h with h | ⟨o, h⟩
      · exact h 0 (ho 0)
      · exact h (ho o)
    refine ⟨R.os, R.tape, R.output, R.size, fun b2 h1 h2 => R.rest b2 h1 (hown b2 (.inl h2)), fun b2 o h1 h2 => ?_, hGle, ?_, fun k cs b e => by simp [gSt, getK] at e, fun k n b lo hi e => by simp [gSt, getK] at e, fun k _ e => by simp [gSt, getK] at e⟩
    · have := R.rest b2 h1 (hown b2 (.inr ⟨o, h2⟩))
      exact ⟨cell?_same this o, frozen?_same this o⟩
    · intro bb o v hv
      simp only [G'] at hv
      split at hv
      · rename_i hb; subst hb
        rcases R.blk with h | h
        · subst h; exact .inr (.inr (.inl ⟨1000000, _, hg, e1⟩))
        · exact .inr (.inl h)
      · exact .inl hv
end Go.Abs

namespace Go.Abs

/-- A slice of which it is known that it is not nil. -/
def notNil : AV → Bool
  | .c (.sl _ (_ :: _)) => true
  | .own _ _ (_ :: _) => true
  | .bsl _ _ _ n => Nat.blt 0 n
  | _ => false
def isSl : AV → Bool
  | .c (.sl ..) => true
  | .own .. => true
  | .bsl .. => true
  | _ => false
/-- Is it nil? -/
def nilRes (a : AV) : CV := match notNil a with
  | true => .bool false
  | false => .abool

theorem isSl_val {g : Gh} {a : AV} {u : Value} (h : isSl a = true) (hr : RelA g a u) : ∃ base len cap, u = .slice base len cap ∧ (notNil a = true → base ≠ none) := by
  unfold isSl at h
  split at h
  · rename_i s rows
    simp only [RelA, Rel] at hr
    obtain ⟨base, len, cap, rfl, hl, hc, hr⟩ := hr
    refine ⟨base, len, cap, rfl, fun hn => ?_⟩
    rcases hr with rfl | ⟨b, o, rfl, _⟩
    · simp [notNil] at hn
    · simp
  · rename_i k s rows
    simp only [RelA] at hr
    obtain ⟨base, len, cap, rfl, hl, hc, hr, _⟩ := hr
    refine ⟨base, len, cap, rfl, fun hn => ?_⟩
    rcases hr with rfl | ⟨b, o, rfl, _⟩
    · simp [notNil] at hn
    · simp
  · simp only [RelA] at hr
    obtain ⟨b, cap, o, _, rfl, h1, _, h2⟩ := hr
    refine ⟨_, _, _, rfl, fun hn => ?_⟩
    have := Nat.blt_eq.mp hn
    rcases h2 with h2 | h2
    · omega
    · simp [h2]
  · simp at h

section
variable {P : Program} {X : Ctx}

theorem run_equalIn_sl1 {t e : TypeId} {w : World} (d : Nat) (h : (underlying t).run P w = .ok (.slice e) w) (a : Addr) (n m : Nat) :
    (Op.equalIn (d + 1) t (.slice (some a) n m) (.slice none 0 0)).run P w = .ok false w := by simp [Op.equalIn, h]
theorem run_equalIn_sl0 {t e : TypeId} {w : World} (d : Nat) (h : (underlying t).run P w = .ok (.slice e) w) (n m : Nat) :
    (Op.equalIn (d + 1) t (.slice none n m) (.slice none 0 0)).run P w = .ok true w := by simp [Op.equalIn, h]
theorem run_equal_slice_nil {t e : TypeId} {w : World} (h : (underlying t).run P w = .ok (.slice e) w) (base : Option Addr) (n m : Nat) :
    (Op.equal t (.slice base n m) (.slice none 0 0)).run P w = .ok base.isNone w := by
  cases base with
  | none => exact run_equalIn_sl0 9999 h n m
  | some a => exact run_equalIn_sl1 9999 h a n m

/-- A slice held against nil. -/
theorem OpSem.nilEq (hX : CtxOk P X) {o : Oper} {env : Env} {σ : St} {t yt : TypeId} {x : Operand} (ho : o.op = .binOp .eql t x (.const (.slice none 0 0)) yt) {i : TI} {e : Nat} (hi : X.ti t = some i) (hk : i.kind = .slice e)
    {a : AV} (hx : aeval X env x = some a) (ha : isSl a = true) : OpSem P X o env σ (.c (nilRes a)) (fun σ => σ) ⟨[], []⟩ := by
  refine OpSem.val fun env1 w g act h1 himm hglob henv => ?_
  have hx' : aeval X env1 x = some a := by rw [h1 x (by rw [ho]; simp [Op.operands])]; exact hx
  obtain ⟨base, len, cap, hv, hn⟩ := isSl_val ha (aeval_ok (a := act) henv hglob hx')
  obtain ⟨d1, hd1, hd2, hd3⟩ := hX.run_underlying (w := w) hi
  rw [hk] at hd2; simp only [KindOk] at hd2; subst hd2
  refine ⟨Value.bool base.isNone, ?_, ?_⟩
  · obtain ⟨dst, op, type, pos, after, guard⟩ := o
    simp only at ho; subst ho
    have he : binOp .eql t (.slice base len cap) (.slice none 0 0) = (do Pure.pure (Value.bool (← Op.equal t (.slice base len cap) (.slice none 0 0)))) := rfl
    have hc : act.eval (.const (.slice none 0 0)) = .slice none 0 0 := rfl
    simp [execOp, hv, hc, he, eqGuard_at_slice, run_equal_slice_nil hd1]
  · unfold nilRes
    split
    · rename_i hh
      simp only [RelA, Rel]
      have := hn hh
      cases base <;> simp at this ⊢
    · simp only [RelA, Rel]; exact ⟨_, rfl⟩

variable {ops : Array Oper} {rest : List Oper} {o : Oper} {env : Env} {σ : St} {acc : List Fp} {Q : Env → St → List Fp → Prop}
theorem AOps.nilEq (hX : CtxOk P X) (kn : List Nat) (hg : aguard ops.toList kn env o = some true) {t yt : TypeId} {x : Operand} (ho : o.op = .binOp .eql t x (.const (.slice none 0 0)) yt) {d : Nat} (hd : o.dst = some d) {i : TI} {e : Nat} (hi : X.ti t = some i) (hk : i.kind = .slice e)
    {a : AV} (hx : aeval X env x = some a) (ha : isSl a = true) {v : CV} (hv : nilRes a = v)
    (k : AOps P X ops rest ((d, .c v) :: env) σ (⟨[], []⟩ :: acc) Q) : AOps P X ops (o :: rest) env σ acc Q := by
  subst hv
  exact AOps.step (guard_in hg) (OpSem.nilEq hX ho hi hk hx ha) (EffOk.id _) (by rw [hd]; exact k)

variable {f : FuncId} {n : Nat} {β : Base} {R : Ending → World → Prop} {K : List Item}
/-- A condition that is not known: both ways. -/
theorem AK.condU {c : Operand} {x y : Code} (hc : aeval X env c = some (.c .abool)) (h1 : AK P X f n β R (.code x :: K) env σ) (h2 : AK P X f n β R (.code y :: K) env σ) :
    AK P X f n β R (.code (.cond c x y) :: K) env σ := by
  intro g w a cs hL
  have := aeval_ok hL.env hL.glob hc
  simp only [RelA, Rel] at this
  obtain ⟨b, hb⟩ := this
  cases b
  · obtain ⟨e, w', fr, r1, r2, r3, r4⟩ := h2 g w a cs hL
    have st := step_cond (P := P) (b := top f) (x := x) (y := y) (k := K) (cs := cs) (w := w) hb
    rw [if_neg (by decide)] at st
    exact ⟨e, w', fr, r1, r2.of_steps (.one st), r3, r4⟩
  · obtain ⟨e, w', fr, r1, r2, r3, r4⟩ := h1 g w a cs hL
    have st := step_cond (P := P) (b := top f) (x := x) (y := y) (k := K) (cs := cs) (w := w) hb
    rw [if_pos rfl] at st
    exact ⟨e, w', fr, r1, r2.of_steps (.one st), r3, r4⟩
end
end Go.Abs

namespace Go.Abs

mutual
/-- What the first is, the second is, too. -/
def Wk : CV → CV → Prop
  | .sl s rows, .sl t rows' => (s = t ∧ rows = rows') ∨ (rows = [] ∧ rows' = [])
  | .agg l, .agg m => WkL l m
  | .tup l, .tup m => WkL l m
  | v, .any => v.one = true
  | v, w => v = w
def WkL : List CV → List CV → Prop
  | [], [] => True
  | v :: l, w :: m => Wk v w ∧ WkL l m
  | _, _ => False
end

mutual
theorem Wk.refl : ∀ (v : CV), Wk v v
  | .sl s rows => by unfold Wk; exact .inl ⟨rfl, rfl⟩
  | .agg l => by simp only [Wk]; exact WkL.refl l
  | .tup l => by simp only [Wk]; exact WkL.refl l
  | .any => by simp only [Wk]; rfl
  | .int .. => by simp only [Wk]
  | .bool .. => by simp only [Wk]
  | .str .. => by simp only [Wk]
  | .nilp => by simp only [Wk]
  | .undef => by simp only [Wk]
  | .ip .. => by simp only [Wk]
  | .clo .. => by simp only [Wk]
  | .abool => by simp only [Wk]
theorem WkL.refl : ∀ (l : List CV), WkL l l
  | [] => by simp only [WkL]
  | v :: l => by simp only [WkL]; exact ⟨Wk.refl v, WkL.refl l⟩
end
theorem Wk.of_eq {v w : CV} (h : v = w) : Wk v w := by subst h; exact Wk.refl v

theorem one_any {G : Imm} {v : CV} {u : Value} (h : v.one = true) (hr : Rel G v u) : (∀ vs, u ≠ .agg vs) ∧ ∀ vs, u ≠ .tuple vs := by
  cases v <;> simp [CV.one] at h <;> simp only [Rel] at hr
  case int => subst hr; simp
  case bool => subst hr; simp
  case str => subst hr; simp
  case nilp => subst hr; simp
  case sl => obtain ⟨_, _, _, rfl, _⟩ := hr; simp
  case ip => obtain ⟨_, _, rfl, _⟩ := hr; simp
  case clo => obtain ⟨_, rfl, _⟩ := hr; simp
  case any => exact hr
  case abool => obtain ⟨_, rfl⟩ := hr; simp

theorem wk_one {v w : CV} (h : Wk v w) (h1 : v.one = true) : w.one = true := by
  unfold Wk at h
  split at h
  · rfl
  · simp [CV.one] at h1
  · simp [CV.one] at h1
  · rfl
  · subst h; exact h1

mutual
theorem Wk.rel {G : Imm} : ∀ {v w : CV} {u : Value}, Wk v w → Rel G v u → Rel G w u
  | .sl s rows, w, u, h, hr => by
    cases w
    case sl t rows' =>
      unfold Wk at h
      rcases h with ⟨rfl, rfl⟩ | ⟨rfl, rfl⟩
      · exact hr
      · simp only [Rel] at hr ⊢
        obtain ⟨base, len, cap, e1, e2, e3, _⟩ := hr
        exact ⟨base, len, cap, e1, e2, e3, by simp⟩
    case any => unfold Wk at h; simp only [Rel]; exact one_any h hr
    all_goals (unfold Wk at h; cases h)
  | .agg l, w, u, h, hr => by
    cases w <;> simp only [Wk] at h
    case agg m =>
      simp only [Rel] at hr ⊢
      obtain ⟨vs, e1, e2, e3⟩ := hr
      obtain ⟨g1, g2, _⟩ := WkL.rel h e2
      exact ⟨vs, e1, g1, g2 e3⟩
    case any => simp [CV.one] at h
    all_goals (cases h)
  | .tup l, w, u, h, hr => by
    cases w <;> simp only [Wk] at h
    case tup m =>
      simp only [Rel] at hr ⊢
      obtain ⟨vs, e1, e2, e3⟩ := hr
      obtain ⟨g1, _, g2⟩ := WkL.rel h e2
      exact ⟨vs, e1, g1, by omega⟩
    case any => simp [CV.one] at h
    all_goals (cases h)
  | .any, w, u, h, hr => by cases w <;> simp only [Wk] at h <;> first | exact hr | cases h
  | .int .., w, u, h, hr => by cases w <;> simp only [Wk] at h <;> first | (simp only [Rel]; exact one_any h hr) | (rw [← h]; exact hr) | cases h
  | .bool .., w, u, h, hr => by cases w <;> simp only [Wk] at h <;> first | (simp only [Rel]; exact one_any h hr) | (rw [← h]; exact hr) | cases h
  | .str .., w, u, h, hr => by cases w <;> simp only [Wk] at h <;> first | (simp only [Rel]; exact one_any h hr) | (rw [← h]; exact hr) | cases h
  | .nilp, w, u, h, hr => by cases w <;> simp only [Wk] at h <;> first | (simp only [Rel]; exact one_any h hr) | exact hr | cases h
  | .undef, w, u, h, hr => by cases w <;> simp only [Wk] at h <;> first | exact hr | (simp [CV.one] at h) | cases h
  | .ip .., w, u, h, hr => by cases w <;> simp only [Wk] at h <;> first | (simp only [Rel]; exact one_any h hr) | (rw [← h]; exact hr) | cases h
  | .clo .., w, u, h, hr => by cases w <;> simp only [Wk] at h <;> first | (simp only [Rel]; exact one_any h hr) | (rw [← h]; exact hr) | cases h
  | .abool, w, u, h, hr => by cases w <;> simp only [Wk] at h <;> first | (simp only [Rel]; exact one_any h hr) | exact hr | cases h
theorem WkL.rel {G : Imm} : ∀ {l m : List CV} {us : List Value}, WkL l m → RelL G l us → RelL G m us ∧ (l.all CV.one = true → m.all CV.one = true) ∧ l.length = m.length
  | [], [], us, _, hr => ⟨hr, id, rfl⟩
  | v :: l, w :: m, us, h, hr => by
    simp only [WkL] at h
    simp only [RelL] at hr ⊢
    obtain ⟨u, us, rfl, r1, r2⟩ := hr
    obtain ⟨g1, g2, g3⟩ := WkL.rel h.2 r2
    refine ⟨⟨u, us, rfl, Wk.rel h.1 r1, g1⟩, ?_, by simp [g3]⟩
    simp only [List.all_cons, Bool.and_eq_true]
    rintro ⟨o1, o2⟩
    exact ⟨wk_one h.1 o1, g2 o2⟩
  | [], _ :: _, _, h, _ => by simp [WkL] at h
  | _ :: _, [], _, h, _ => by simp [WkL] at h
end

theorem wk_bad {x y : CV} {e : Int} (h1 : x.one = true) (h2 : y.one = true) : Wk (.tup [.agg [x, y], .int .i64 e]) (.tup [.agg [.any, .any], .int .i64 e]) := by
  have hx : Wk x .any := by cases x <;> unfold Wk <;> first | exact h1 | rfl
  have hy : Wk y .any := by cases y <;> unfold Wk <;> first | exact h2 | rfl
  unfold Wk WkL WkL WkL
  refine ⟨?_, Wk.refl _, trivial⟩
  unfold Wk WkL WkL WkL
  exact ⟨hx, hy, trivial⟩
theorem wk_nil1 {s t : Nat} {b : CV} : Wk (.tup [.sl s [], b]) (.tup [.sl t [], b]) := by
  simp only [Wk, WkL]
  exact ⟨.inr ⟨trivial, trivial⟩, Wk.refl b, trivial⟩
theorem wk_nil2 {s t : Nat} {b c : CV} : Wk (.tup [.agg [.sl s [], b], c]) (.tup [.agg [.sl t [], b], c]) := by
  simp only [Wk, WkL]
  exact ⟨⟨.inr ⟨trivial, trivial⟩, Wk.refl b, trivial⟩, Wk.refl c, trivial⟩

section
variable {P : Program} {X : Ctx}
theorem QCalls.wk {f : FuncId} {args args' : List CV} {r r' : CV} (ha : WkL args args') (hr : Wk r r') (q : QCalls P X f args' r) : QCalls P X f args r' := by
  refine ⟨q.1, fun G w vs h1 h2 h3 => ?_⟩
  exact Calls.mono (q.2 G w vs h1 h2 (WkL.rel ha h3).1) fun e w' ⟨u, G', e1, e2, e3⟩ => ⟨u, G', e1, Wk.rel hr e2, e3⟩
variable {f : FuncId} {n : Nat} {β : Base} {K : List Item} {env : Env} {σ : St}
/-- Leaving with a closed result, of which less is said. -/
theorem AK.retW (hX : CtxOk P X) {fn : Func} (hf : P.funcs[f]? = some fn) {r : AV} {cv cv' : CV}
    (hr : aresult X σ.boxes env fn.results.toList = some r) (hc : close r = some cv) (he : Wk cv cv') : AK P X f n β (QR β cv') (.code .ret :: K) env σ := by
  have h := AK.retQ (K := K) (β := β) (n := n) hX hf hr hc rfl
  intro g w a cs hL
  obtain ⟨e, w', fr, ⟨u, g', h1, h2, h3⟩, h4⟩ := h g w a cs hL
  exact ⟨e, w', fr, ⟨u, g', h1, Wk.rel he h2, h3⟩, h4⟩
end
end Go.Abs

namespace Go.Abs

/-- What is known behind an operation. -/
inductive SRes where
  | ok (env : Env) (bs : List (Nat × List AV)) (us : List Nat) (fp : Fp)
  | no

/-- A variable that is boxed, a new variable, a store, a slice or an array that is written out, a part of an array, a slice held against nil. -/
def stepB (X : Ctx) (all : List Oper) (o : Oper) (env : Env) (bs : List (Nat × List AV)) (us : List Nat) : SRes :=
  match aguard all kn env o with
  | some true => match o.op, o.dst with
    | .box _ x, some d => match aeval X env x with
      | some a => match cellsA a with
        | some cells => match memF d us with
          | false => .ok ((d, .ptr d 0) :: env) ((d, cells) :: bs) (d :: us) ⟨[], [d]⟩
          | true => .no
        | none => .no
      | none => .no
    | .alloc t, some d => match X.ti t with
      | some i => match i.zero with
        | some za => match cellsA za with
          | some cells => match memF d us with
            | false => .ok ((d, .ptr d 0) :: env) ((d, cells) :: bs) (d :: us) ⟨[], [d]⟩
            | true => .no
          | none => .no
        | none => .no
      | none => .no
    | .store t x y, none => match X.ti t, aeval X env x, aeval X env y with
      | some i, some (.ptr key off), some a => match getK key bs, cellsA a with
        | some cells, some vs => match Nat.beq vs.length i.size, writeAt off vs cells with
          | true, some r => match setKF key r bs with
            | some bs' => .ok env bs' us ⟨[], [key]⟩
            | none => .no
          | _, _ => .no
        | _, _ => .no
      | _, _, _ => .no
    | .buildSlice t len parts, some d => match X.ti t with
      | some i => match i.kind with
        | .slice e => match X.ti e with
          | some j => match j.zero, partRows (aeval X env) 0 parts.toList with
            | some _, some rows => match Nat.beq rows.length len, rowsShape j.size rows, Nat.ble (len * j.size) 16777216 with
              | true, true, true => .ok ((d, .own .exact j.size rows) :: env) bs us ⟨[], []⟩
              | _, _, _ => .no
            | _, _ => .no
          | none => .no
        | _ => .no
      | none => .no
    | .build t parts, some d => match X.ti t with
      | some i => match i.kind with
        | .arr n e => match X.ti e, i.zero with
          | some j, some (.agg z) => match afill X (aeval X env) (arrFs j.size e 0 n) parts.toList z with
            | some r => .ok ((d, .agg r) :: env) bs us ⟨[], []⟩
            | none => .no
          | _, _ => .no
        | _ => .no
      | none => .no
    | .index t x ix, some d => match X.ti t, aeval X env x, aeval X env ix with
      | some i, some (.agg cs), some ia => match i.kind, asNat ia with
        | .arr n e, some m => match X.ti e, Nat.blt m n with
          | some j, true => match dropN (m * j.size) cs with
            | some r => match aload j r with
              | some v => .ok ((d, v) :: env) bs us ⟨[], []⟩
              | none => .no
            | none => .no
          | _, _ => .no
        | _, _ => .no
      | _, _, _ => .no
    | .binOp .eql t x (.const (.slice none 0 0)) _, some d => match X.ti t, aeval X env x with
      | some i, some a => match i.kind, isSl a with
        | .slice _, true => .ok ((d, .c (nilRes a)) :: env) bs us ⟨[], []⟩
        | _, _ => .no
      | _, _ => .no
    | _, _ => .no
  | _ => .no

section
variable {P : Program} {X : Ctx} {ops : Array Oper} {o : Oper} {rest : List Oper} {env : Env} {acc : List Fp} {Q : Env → St → List Fp → Prop}
  {bs : List (Nat × List AV)} {ts : List (Nat × Nat)} {us : List Nat}

theorem AOps.stepB (hX : CtxOk P X) {env' : Env} {bs' : List (Nat × List AV)} {us' : List Nat} {fp : Fp} (h : stepB X ops.toList o env bs us = .ok env' bs' us' fp)
    (k : AOps P X ops rest env' ⟨bs', ts, us'⟩ (fp :: acc) Q) : AOps P X ops (o :: rest) env ⟨bs, ts, us⟩ acc Q := by
  unfold Go.Abs.stepB at h
  split at h
  · rename_i hg
    split at h
    · rename_i t x d hop hd
      split at h
      · rename_i a ha
        split at h
        · rename_i cells hc
          split at h
          · rename_i hm
            simp only [SRes.ok.injEq] at h
            obtain ⟨rfl, rfl, rfl, rfl⟩ := h
            exact AOps.box kn hg hop hd ha hc hm k
          · cases h
        · cases h
      · cases h
    · rename_i t d hop hd
      split at h
      · rename_i i hi
        split at h
        · rename_i za hz
          split at h
          · rename_i cells hc
            split at h
            · rename_i hm
              simp only [SRes.ok.injEq] at h
              obtain ⟨rfl, rfl, rfl, rfl⟩ := h
              exact AOps.alloc hX kn hg hop hd hi hz hc hm k
            · cases h
          · cases h
        · cases h
      · cases h
    · rename_i t x y hop hd
      split at h
      · rename_i i key off a hi hx hy
        split at h
        · rename_i cells vs hb hc
          split at h
          · rename_i r hl hw
            split at h
            · rename_i bs2 hs
              simp only [SRes.ok.injEq] at h
              obtain ⟨rfl, rfl, rfl, rfl⟩ := h
              exact AOps.store hX kn hg hop hd hi hx hy hb hc hl hw hs k
            · cases h
          · cases h
        · cases h
      · cases h
    · rename_i t len parts d hop hd
      split at h
      · rename_i i hi
        split at h
        · rename_i e hk
          split at h
          · rename_i j hj
            split at h
            · rename_i za rows hz hp
              split at h
              · rename_i h1 h2 h3
                simp only [SRes.ok.injEq] at h
                obtain ⟨rfl, rfl, rfl, rfl⟩ := h
                exact AOps.buildSlice hX kn hg hop hd hi hk hj hz hp h1 rfl h2 h3 k
              · cases h
            · cases h
          · cases h
        · cases h
      · cases h
    · rename_i t parts d hop hd
      split at h
      · rename_i i hi
        split at h
        · rename_i n e hk
          split at h
          · rename_i j z hj hz
            split at h
            · rename_i r hr
              simp only [SRes.ok.injEq] at h
              obtain ⟨rfl, rfl, rfl, rfl⟩ := h
              exact AOps.buildArr hX kn hg hop hd hi hk hj hz hr k
            · cases h
          · cases h
        · cases h
      · cases h
    · rename_i t x ix d hop hd
      split at h
      · rename_i i cs ia hi hx hz
        split at h
        · rename_i n e m hk hm
          split at h
          · rename_i j hj hb
            split at h
            · rename_i r hr
              split at h
              · rename_i v hv
                simp only [SRes.ok.injEq] at h
                obtain ⟨rfl, rfl, rfl, rfl⟩ := h
                exact AOps.indexArr hX kn hg hop hd hi hk hj hx hz hm hb hr hv k
              · cases h
            · cases h
          · cases h
        · cases h
      · cases h
    · rename_i t x yt d hop hd
      split at h
      · rename_i i a hi hx
        split at h
        · rename_i e hk ha
          simp only [SRes.ok.injEq] at h
          obtain ⟨rfl, rfl, rfl, rfl⟩ := h
          exact AOps.nilEq hX kn hg hop hd hi hk hx ha rfl k
        · cases h
      · cases h
    · cases h
  · cases h

/-- What an append onto a slice with room of its own comes to. -/
def stepA (X : Ctx) (all : List Oper) (o : Oper) (env : Env) (ts : List (Nat × Nat)) (us : List Nat) : Option (Nat × Nat × Nat × Nat × List CV × List CV × Nat × List (Nat × Nat)) :=
  match aguard all kn env o with
  | some true => match o.op, o.dst with
    | .call { callee := .builtin .append, args, argTypes }, some d => match args.toList, argTypes.toList with
      | [xs, y], [t, t1] => match X.ti t, X.ti t1, aeval X env xs, aeval X env y with
        | some i, some i1, some (.own ow s rows), some b => match i.kind, srcKind i1.kind, srcRows b with
          | .slice e, true, some (s1, rows1) => match X.ti e with
            | some j => match j.zero, okOwn s j.size rows ow, okStride s1 j.size rows1, Nat.ble 1 j.bytes with
              | some _, true, true, true => match appKey d us ts ow with
                | some (key, n) => match setKF key n ts with
                  | some ts' => some (d, key, n, j.size, rows, rows1, j.bytes, ts')
                  | none => none
                | none => none
              | _, _, _, _ => none
            | none => none
          | _, _, _ => none
        | _, _, _, _ => none
      | _, _ => none
    | _, _ => none
  | _ => none
theorem AOps.stepA (hX : CtxOk P X) {d key n sz by_ : Nat} {rows rows1 : List CV} {ts' : List (Nat × Nat)} (h : stepA X ops.toList o env ts us = some (d, key, n, sz, rows, rows1, by_, ts'))
    (hbound : (rows.length + rows1.length) * by_ ≤ 140737488355328)
    (k : AOps P X ops rest ((d, .own (.tok key n) sz (rows ++ rows1)) :: env) ⟨bs, ts', key :: us⟩ (⟨[], [key]⟩ :: acc) Q) : AOps P X ops (o :: rest) env ⟨bs, ts, us⟩ acc Q := by
  unfold Go.Abs.stepA at h
  split at h
  · rename_i hg
    split at h
    · rename_i args ats d' hop hd
      split at h
      · rename_i xs y t t1 hargs hats
        split at h
        · rename_i i i1 ow s rows' b hi hi1 ha hb
          split at h
          · rename_i e s1 rows1' hk hk1 hsrc
            split at h
            · rename_i j hj
              split at h
              · rename_i za hz hs hs1 hby
                split at h
                · rename_i key' n' hkey
                  split at h
                  · rename_i ts2 hts
                    simp only [Option.some.injEq, Prod.mk.injEq] at h
                    obtain ⟨rfl, rfl, rfl, rfl, rfl, rfl, rfl, rfl⟩ := h
                    exact AOps.append hX kn hg hop hargs hats hd hi hk hj hz hi1 hk1 ha hb hsrc rfl hs hs1 hkey rfl hby hts hbound k
                  · cases h
                · cases h
              · cases h
            · cases h
          · cases h
        · cases h
      · cases h
    · cases h
  · cases h
/-- A call of a function: where its result goes, which it is, its arguments. -/
def stepC (X : Ctx) (all : List Oper) (o : Oper) (env : Env) : Option (Nat × FuncId × List CV) :=
  match aguard all kn env o with
  | some true => match o.op, o.dst with
    | .call { callee := .value (.func f), args, argTypes := _ }, some d => match capsOf (aeval X env) args.toList with
      | some cvs => some (d, f, cvs)
      | none => none
    | .call { callee := .value (.tmp x), args, argTypes := _ }, some d => match aeval X env (.tmp x), capsOf (aeval X env) args.toList with
      | some (.c (.clo f caps)), some cvs => some (d, f, cvs ++ caps)
      | _, _ => none
    | _, _ => none
  | _ => none
theorem AOps.stepC {σ : St} {d : Nat} {f : FuncId} {cvs : List CV} {r : CV} (h : stepC X ops.toList o env = some (d, f, cvs)) (hq : QCalls P X f cvs r)
    (k : AOps P X ops rest ((d, .c r) :: env) σ (⟨[], []⟩ :: acc) Q) : AOps P X ops (o :: rest) env σ acc Q := by
  unfold Go.Abs.stepC at h
  split at h
  · rename_i hg
    split at h
    · rename_i f' args ats d' hop hd
      split at h
      · rename_i cvs' hc
        simp only [Option.some.injEq, Prod.mk.injEq] at h
        obtain ⟨rfl, rfl, rfl⟩ := h
        exact AOps.callq kn hg hop hd hc hq k
      · cases h
    · rename_i x args ats d' hop hd
      split at h
      · rename_i f' caps cvs' hx hc
        simp only [Option.some.injEq, Prod.mk.injEq] at h
        obtain ⟨rfl, rfl, rfl⟩ := h
        exact AOps.callc kn hg hop hd hx hc hq k
      · cases h
    · cases h
  · cases h
/-- A row's address: where it goes, the rows, which. -/
def stepI (X : Ctx) (all : List Oper) (o : Oper) (env : Env) : Option (Nat × List CV × Int) :=
  match aguard all kn env o with
  | some true => match o.op, o.dst with
    | .indexAddr t x ix, some d => match X.ti t, aeval X env x, aeval X env ix with
      | some i, some a, some (.c (.int _ z)) => match i.kind, rowsOf a with
        | .slice e, some (s, rows) => match X.ti e with
          | some j => match Nat.beq s j.size with
            | true => some (d, rows, z)
            | false => none
          | none => none
        | _, _ => none
      | _, _, _ => none
    | _, _ => none
  | _ => none
theorem AOps.stepI (hX : CtxOk P X) {σ : St} {d : Nat} {rows : List CV} {z : Int} (h : stepI X ops.toList o env = some (d, rows, z)) (m : Nat) (hm : z = m) {r : CV} (hrow : rows[m]? = some r) {cs : List CV} (hcs : r.cells = cs)
    (k : AOps P X ops rest ((d, .c (.ip cs)) :: env) σ (⟨[], []⟩ :: acc) Q) : AOps P X ops (o :: rest) env σ acc Q := by
  unfold Go.Abs.stepI at h
  split at h
  · rename_i hg
    split at h
    · rename_i t x ix d' hop hd
      split at h
      · rename_i i a k' z' hi ha hz
        split at h
        · rename_i e s rows' hk hr
          split at h
          · rename_i j hj
            split at h
            · rename_i hs
              simp only [Option.some.injEq, Prod.mk.injEq] at h
              obtain ⟨rfl, rfl, rfl⟩ := h
              exact AOps.index hX hg hop hd hi hk hj ha hr hs hz m hm hrow hcs k
            · cases h
          · cases h
        · cases h
      · cases h
    · cases h
  · cases h
end
end Go.Abs

namespace Go.Abs

theorem setCells_keep (b : Nat) : ∀ (vs : List Value) (o : Nat) (w : World), (w.setCells b o vs).heap.size = w.heap.size ∧ (w.setCells b o vs).os = w.os ∧ (w.setCells b o vs).tape = w.tape ∧ (w.setCells b o vs).output = w.output ∧
    ∀ k, k ≠ b → (w.setCells b o vs).heap[k]? = w.heap[k]?
  | [], _, w => ⟨rfl, rfl, rfl, rfl, fun _ _ => rfl⟩
  | v :: r, o, w => by
    obtain ⟨h1, h2, h3, h4, h5⟩ := setCells_keep b r (o + 1) (w.setCell ⟨b, o, none⟩ v)
    rw [World.setCells]
    refine ⟨by rw [h1]; simp [World.setCell], by rw [h2]; rfl, by rw [h3]; rfl, by rw [h4]; rfl, fun k hk => ?_⟩
    rw [h5 k hk]; exact heap_setCell w ⟨b, o, none⟩ v _ hk
theorem setCells_get {b : Nat} {vs : List Value} {o : Nat} {w : World} (h : ∀ j, j < vs.length → (w.cell? ⟨b, o + j, none⟩).isSome = true) (j : Nat) :
    (w.setCells b o vs).cell? ⟨b, j, none⟩ = if o ≤ j ∧ j < o + vs.length then vs[j - o]? else w.cell? ⟨b, j, none⟩ := by
  by_cases hin : o ≤ j ∧ j < o + vs.length
  · rw [if_pos hin]
    have := World.cell?_setCells_in b vs o w h (j - o) (by omega)
    rw [show o + (j - o) = j by omega] at this
    rw [this, List.getElem?_eq_getElem]
  · rw [if_neg hin]
    exact World.cell?_setCells_out b vs o w ⟨b, j, none⟩ (fun _ _ => by show j < o ∨ o + vs.length ≤ j; omega)
theorem setCells_some {b : Nat} {vs : List Value} {o : Nat} {w : World} (h : ∀ j, j < vs.length → (w.cell? ⟨b, o + j, none⟩).isSome = true) {j : Nat} (hj : (w.cell? ⟨b, j, none⟩).isSome = true) :
    ((w.setCells b o vs).cell? ⟨b, j, none⟩).isSome = true := by
  rw [setCells_get h]
  split
  · rw [List.getElem?_eq_getElem (by omega)]; rfl
  · exact hj

/-- copy, rows of any width. -/
theorem run_copyK {P : Program} (w : World) (dT sT ty elem : TypeId) (b o dLen dCap : Nat) (a : Addr) (sLen sCap : Nat) (cs : List Value) (n s : Nat)
    (hu : P.underlying dT = some (.slice elem)) (hs : (P.info? elem).map (·.size) = some s) (hn : n = Nat.min sLen dLen) (hl : cs.length = n * s)
    (hsrc : ∀ (j : Nat) v, cs[j]? = some v → w.cell? (a.add j) = some v) (hc : ∀ j, j < cs.length → (w.cell? ⟨b, o + j, none⟩).isSome = true) (hf : ∀ j, j < cs.length → w.frozen? ⟨b, o + j, none⟩ = false) (h1 : ∀ v ∈ cs, v.oneCell' = true) :
    (Builtin.copy_ #[dT, sT] ty #[.slice (some ⟨b, o, none⟩) dLen dCap, .slice (some a) sLen sCap]).run P w = .ok (goInt n) (w.setCells b o cs) := by
  have hfc := run_firstCells_some (P := P) w s n a sLen sCap cs hl hsrc
  have hst := run_storeCells_cells (P := P) b o cs 0 w (by simpa using hc) (by simpa using hf) h1
  simp only [Nat.add_zero] at hst
  cases hq : P.info? elem with
  | none => simp [hq] at hs
  | some i =>
    have hi : i.size = s := by simpa [hq] using hs
    subst hn
    simp [Builtin.copy_, run_underlying hu, Builtin.lenOf, sizeOf, typeInfo, hq, hi, hfc, hst]

/-- copy as one step of a walk over the model, where its run is known. -/
theorem wp_copyI {P : Program} (w : World) {o : Oper} {a : Act} {K : Act → World → Prop} {Q : Exit → Act → World → Prop} (d s : Operand) (t t' : TypeId)
    (ho : o.op = .call { callee := .builtin .copy, args := #[d, s], argTypes := #[t, t'] }) (v u : Value) (hd : a.eval d = v) (hs : a.eval s = u) {v' : Value} {w' : World}
    (hr : (Builtin.copy_ #[t, t'] o.type #[v, u]).run P w = .ok v' w') (h : K (a.put o.dst v') w') : o.wp P a w K Q := by
  unfold Oper.wp execOp
  simp only [ho, resolve, invoke, builtin, Sem.run_bind, Sem.run_pure, Result.andThen_ok, List.map_toArray, List.map_cons, List.map_nil, hd, hs, hr]
  exact h
theorem wpList_copyI {P : Program} (w : World) {ops : Array Oper} {rest : List Oper} {o : Oper} {a : Act} {Q : Exit → Act → World → Prop} (hgd : o.guard = none) (d s : Operand) (t t' : TypeId)
    (ho : o.op = .call { callee := .builtin .copy, args := #[d, s], argTypes := #[t, t'] }) (v u : Value) (hd : a.eval d = v) (hs : a.eval s = u) {v' : Value} {w' : World}
    (hr : (Builtin.copy_ #[t, t'] o.type #[v, u]).run P w = .ok v' w') (h : wpList P ops Q rest (a.put o.dst v') w') : wpList P ops Q (o :: rest) a w :=
  wpList_plain hgd fun _ hK => wp_copyI w d s t t' ho v u hd hs hr (hK _ _ h)
theorem step_copyI {P : Program} {ops : Array Oper} {o : Oper} {a : Act} {w : World} {K : Act → World → Prop} {Q : Exit → Act → World → Prop} {E : Prop}
    (hg : o.guard = none) (d x : Operand) (dT sT : TypeId) (hop : o.op = Op.call { callee := Callee.builtin Builtin.copy, args := #[d, x], argTypes := #[dT, sT] })
    (v u : Value) (hd : a.eval d = v) (hx : a.eval x = u) {v' : Value} {w' : World} (hr : (Builtin.copy_ #[dT, sT] o.type #[v, u]).run P w = .ok v' w') (hK : K (a.put o.dst v') w') :
    if Region.wanted o (yielded ops a.tmps) = true then Oper.wp P o a w K Q else E := by
  rw [if_pos (by simp [Region.wanted, hg])]
  exact wp_copyI w d x dT sT hop v u hd hx hr hK

/-- Slices in two blocks, the second of which nobody froze. -/
theorem run_overlaps_box {P : Program} (w : World) (tS tR e : TypeId) (ht : P.underlying tS = some (.slice e)) (size : Nat) (hz : ∀ w, (Go.sizeOf e).run P w = .ok size w)
    (a b : Addr) (la ca lb cb : Nat) (hne : a.block ≠ b.block) {u v : Value} (hua : w.cell? ⟨a.block, a.off, none⟩ = some u) (hub : w.cell? ⟨b.block, b.off, none⟩ = some v) (hfb : ∀ o, w.frozen? ⟨b.block, o, none⟩ = false) (hbs : b.spot = none) :
    (Extern.SlicesOverlaps.overlaps #[tS, tS] #[tR] #[.slice (some a) la ca, .slice (some b) lb cb]).run P w = .ok (.bool false) w := by
  have shp : ∀ (x : Addr) {v : Value}, w.cell? ⟨x.block, x.off, none⟩ = some v → ∃ t k, w.shape? x.block = some (t, k + 1) := by
    intro x v hx
    unfold World.cell? at hx
    unfold World.shape?
    split at hx
    · rename_i c t f hh
      simp only at hh hx ⊢
      rw [hh]
      refine ⟨t, c.size - 1, ?_⟩
      have : x.off < c.size := by
        by_cases h : x.off < c.size
        · exact h
        · have : c[x.off]? = none := by simp; omega
          rw [this] at hx; simp at hx
      simp; omega
    · cases hx
  obtain ⟨tA, kA, hsa⟩ := shp a hua
  obtain ⟨tB, kB, hsb⟩ := shp b hub
  have hnb : (a.block != b.block) = true := by simpa using hne
  have hnb' : (a.block == b.block) = false := by simpa using hne
  have hfb0 : w.frozen? b = false := by
    have := hfb b.off
    obtain ⟨bb, bo, bs⟩ := b
    simp only at hbs; subst hbs
    exact this
  have hfe := hfb (kB + 1)
  change Sem.run P (α := Value) (do
    let some t := (#[tS, tS] : Array TypeId)[0]? | stuck "slices.overlaps: no parameter types"
    let .slice elem ← underlying t | stuck "slices.overlaps: slice type expected"
    let size ← sizeOf elem
    match (some a : Option Addr), (some b : Option Addr) with
    | some a, some b =>
      if la = 0 ∨ lb = 0 ∨ size = 0 then pure (Value.bool false)
      else if a.block != b.block && (← frozen a) && (← frozen b) then unsupported .addressObserved
      else do
        if a.block != b.block then do
          noView a; noView b
          if ← mayBeOne a b then return Value.bool ((← choose (.extern "sameAddr.stringBytes" 2)) == 1)
        pure (Value.bool (a.block == b.block && a.off < b.off + lb * size && b.off < a.off + la * size))
    | _, _ => pure (Value.bool false)) w = _
  by_cases h0 : la = 0 ∨ lb = 0 ∨ size = 0
  · simp [run_underlying ht, hz, h0]
  · simp [run_underlying ht, hz, h0, hnb, hnb', frozen, noView, viewAt, mayBeOne, stringish, shape, Sem.run, hsa, hsb, hfb0, hfe]

theorem relL_take {G : Imm} : ∀ {l : List CV} {vs : List Value} (n : Nat), RelL G l vs → RelL G (l.take n) (vs.take n)
  | _, _, 0, _ => by simp [RelL]
  | [], vs, n + 1, h => by simp only [RelL] at h; subst h; simp [RelL]
  | c :: l, vs, n + 1, h => by
    simp only [RelL] at h
    obtain ⟨u, us, rfl, h1, h2⟩ := h
    simp only [List.take_succ_cons, RelL]
    exact ⟨u, _, rfl, h1, relL_take n h2⟩
theorem relL_drop {G : Imm} : ∀ {l : List CV} {vs : List Value} (n : Nat), RelL G l vs → RelL G (l.drop n) (vs.drop n)
  | _, _, 0, h => by simpa using h
  | [], vs, n + 1, h => by simp only [RelL] at h; subst h; simp [RelL]
  | c :: l, vs, n + 1, h => by
    simp only [RelL] at h
    obtain ⟨u, us, rfl, h1, h2⟩ := h
    simpa using relL_drop n h2
theorem relL_length {G : Imm} : ∀ {l : List CV} {vs : List Value}, RelL G l vs → vs.length = l.length
  | [], vs, h => by simp only [RelL] at h; subst h; rfl
  | c :: l, vs, h => by
    simp only [RelL] at h
    obtain ⟨u, us, rfl, h1, h2⟩ := h
    simp [relL_length h2]
theorem flatC_take {s : Nat} {l : List CV} (h : ∀ r ∈ l, r.cells.length = s) (i : Nat) (hi : i ≤ l.length) : (flatC l).take (i * s) = flatC (l.take i) := by
  have e : l = l.take i ++ l.drop i := (List.take_append_drop i l).symm
  have h1 : (flatC (l.take i)).length = i * s := by rw [flatC_length (fun r hr => h r (List.mem_of_mem_take hr)), List.length_take, Nat.min_eq_left hi]
  conv => lhs; rw [e, flatC_append]
  rw [← h1]; simp
theorem flatC_drop {s : Nat} {l : List CV} (h : ∀ r ∈ l, r.cells.length = s) (i : Nat) (hi : i ≤ l.length) : (flatC l).drop (i * s) = flatC (l.drop i) := by
  have e : l = l.take i ++ l.drop i := (List.take_append_drop i l).symm
  have h1 : (flatC (l.take i)).length = i * s := by rw [flatC_length (fun r hr => h r (List.mem_of_mem_take hr)), List.length_take, Nat.min_eq_left hi]
  conv => lhs; rw [e, flatC_append]
  rw [← h1]; simp
end Go.Abs

namespace Go.Abs
section
variable {P : Program} {X : Ctx} {ops : Array Oper} {o : Oper} {rest : List Oper} {env : Env} {σ : St} {acc : List Fp} {Q : Env → St → List Fp → Prop}
end
end Go.Abs

namespace Go.Abs

def stB (bs : List (Nat × List AV)) : St := ⟨bs, [], bs.map (·.1)⟩
def HR (β : Base) (r : AV) (bo : List (Nat × List AV)) : Ending → World → Prop := fun e w' =>
  ∃ u g', e = .returned u ∧ RelA g' r u ∧ Inv w' g' (stB bo) ∧ Keep β.w β.g β.σ w' g' (stB bo)
/-- A call with such boxes gives such a result and leaves such boxes. -/
def HCalls (P : Program) (X : Ctx) (f : FuncId) (bi : List (Nat × List AV)) (args : List AV) (r : AV) (bo : List (Nat × List AV)) : Prop :=
  Enters P f ∧ ∀ (g : Gh) (w : World) (vs : List Value), Inv w g (stB bi) → GlobOk X g.G → RelAL g args vs → Calls P f vs.toArray w (HR ⟨w, g, stB bi⟩ r bo)

mutual
/-- By other names. -/
def AV.rn (ψ : Nat → Nat) : AV → AV
  | .ptr k o => .ptr (ψ k) o
  | .bsl k o s n => .bsl (ψ k) o s n
  | .agg l => .agg (rnL ψ l)
  | .tup l => .tup (rnL ψ l)
  | .c v => .c v
  | .own k s rows => .own k s rows
  | .any => .any
def rnL (ψ : Nat → Nat) : List AV → List AV
  | [] => []
  | a :: l => a.rn ψ :: rnL ψ l
end
mutual
/-- No tokens, and no names but these. -/
def okN (us : List Nat) : AV → Bool
  | .own (.tok _ _) _ _ => false
  | .ptr k _ => mem k us
  | .bsl k _ _ _ => mem k us
  | .agg l => okNL us l
  | .tup l => okNL us l
  | .own .exact _ _ => true
  | .c _ => true
  | .any => true
def okNL (us : List Nat) : List AV → Bool
  | [] => true
  | a :: l => both (okN us a) (okNL us l)
end
section
variable {g g1 : Gh} {us : List Nat} {ψ : Nat → Nat}
end

def delAll {α : Type} : List Nat → List (Nat × α) → List (Nat × α)
  | [], l => l
  | k :: ks, l => delK k (delAll ks l)
/-- The boxes that are handed over are away, those that are left are there. -/
def hEff (ks : List Nat) (nb : List (Nat × List AV)) (nu : List Nat) (σ : St) : St := ⟨nb ++ delAll ks σ.boxes, σ.toks, nu ++ σ.used⟩
/-- The names in such a call: bx: of what is handed over, the callee's and the caller's; po: of what is left, the caller's and the callee's. -/
structure HOk (bs : List (Nat × List AV)) (us : List Nat) (bi bo : List (Nat × List AV)) (bx po : List (Nat × Nat)) (ψ : Nat → Nat) (nb : List (Nat × List AV)) : Prop where
  d2 : distinct (bx.map (·.2)) = true
  keys : ∀ k kk, getK k bx = some kk → k ∈ bi.map (·.1) ∧ ∃ cs, getK kk bs = some cs
  cells : ∀ ts k cs, getK k bi = some cs → ∃ old oc, getK k bx = some old ∧ getK old bs = some oc ∧ ConvL ⟨fun k => getK k bx, fun _ => none⟩ ts cs oc
  nb : ∀ ck cs', getK ck nb = some cs' → ∃ ok cs, getK ck po = some ok ∧ getK ok bo = some cs ∧ cs' = rnL ψ cs
  psi : ∀ ck ok, getK ck po = some ok → ψ ok = ck
  outs : ∀ k, mem k (bo.map (·.1)) = true → ∃ ck, getK ck po = some k
  kept : ∀ ck ok, getK ck po = some ok → (1000000 ≤ ok ∧ getK ok bx = some ck ∧ getK ok bo ≠ none) ∨ (ck ∉ us ∧ ck < 1000000)
  names : ∀ ok cs, getK ok bo = some cs → okNL (bo.map (·.1)) cs = true

section
variable {P : Program} {X : Ctx}

end
end Go.Abs

namespace Go.Abs

theorem HCalls.of {P : Program} {X : Ctx} {f : FuncId} {fn : Func} {c : Code} {bi bo : List (Nat × List AV)} {args : List AV} {r : AV} (hf : P.funcs[f]? = some fn) (hb : fn.body = some c) (he : Enters P f)
    (hn : args.length ≤ fn.ntmps) (env : Env) (σ : St) (henv : env = (args.zipIdx.map fun (v, i) => (i, v))) (hst : stB bi = σ)
    (h : ∀ β, AK P X f fn.ntmps β (HR β r bo) [.code c] env σ) : HCalls P X f bi args r bo := by
  subst hst
  refine ⟨he, fun g w vs hinv hglob hrel cs => ?_⟩
  have hlen := (RelAL.get hrel).1
  have hL : Live X ⟨w, g, stB bi⟩ fn.ntmps env (stB bi) g w { tmps := vs.toArray ++ Array.replicate (fn.ntmps - vs.toArray.size) undef, defers := [] } := by
    refine ⟨hinv, hglob, ?_, Keep.refl _ _ _, ?_, rfl⟩
    · intro t a e
      subst henv
      have key : ∀ (l : List AV) (us : List Value) (k : Nat), RelAL g l us → getK t ((l.zipIdx k).map fun (v, i) => (i, v)) = some a → k ≤ t ∧ ∃ u, us[t - k]? = some u ∧ RelA g a u := by
        intro l
        induction l with
        | nil => intro us k _ e; simp [getK] at e
        | cons v l ih =>
          intro us k hr e
          simp only [RelAL] at hr
          obtain ⟨u, us, rfl, h1, h2⟩ := hr
          simp only [List.zipIdx_cons, List.map_cons, getK_cons] at e
          split at e
          · rename_i ht; subst ht; simp at e; subst e
            exact ⟨Nat.le_refl _, u, by simp, h1⟩
          · rename_i ht
            obtain ⟨h3, u', h4, h5⟩ := ih us (k + 1) h2 e
            refine ⟨by omega, u', ?_, h5⟩
            rw [show t - k = (t - (k + 1)) + 1 from by omega]; simpa using h4
      obtain ⟨_, u, h4, h5⟩ := key args vs 0 hrel e
      simp at h4
      have hlt : t < vs.length := (List.getElem?_eq_some_iff.1 h4).1
      have : (vs.toArray ++ Array.replicate (fn.ntmps - vs.toArray.size) undef).getD t undef = u := by
        rw [Array.getD_eq_getD_getElem?, Array.getElem?_append_left (by simpa using hlt)]
        simp [h4]
      rw [this]; exact h5
    · simp; omega
  obtain ⟨e, w', fr, h1, h4, h5, h6⟩ := h ⟨w, g, stB bi⟩ g w _ cs hL
  have henter : Frame.enter P f vs.toArray .normal =
      (top f).at { tmps := vs.toArray ++ Array.replicate (fn.ntmps - vs.toArray.size) undef, defers := [] } [.code c] := by
    simp [Frame.enter, Frame.at, hf, hb, top]
  exact ⟨_, w', fr, h1, by rw [henter]; exact h4, h5, h6⟩

/-- What leaves, as one value. -/
def retH : List AV → AV
  | [] => .c .undef
  | [x] => x
  | l => .tup l
def retCheck (bx : List (Nat × Nat)) (ks : List Nat) : Bool := both (distinct (bx.map (·.2))) (both (idFit bx) (allIn ks (keysOf bx)))

section
variable {P : Program} {X : Ctx} {f : FuncId} {n : Nat} {β : Base} {K : List Item} {env : Env}
end

/-- The boxes of which the cells hold names of two others. -/
structure MC (c : Nat → Nat → List AV) : Prop where
  conv : ∀ (ρ : Ren) (ts : List (Nat × Nat)) (a b a' b' : Nat), ρ.bx a = some a' → ρ.bx b = some b' → ConvL ρ ts (c a b) (c a' b')
  rn : ∀ (ψ : Nat → Nat) (a b : Nat), rnL ψ (c a b) = c (ψ a) (ψ b)
  ok : ∀ (us : List Nat) (a b : Nat), mem a us = true → mem b us = true → okNL us (c a b) = true

abbrev mI (c : Nat → Nat → List AV) (s f : List CV) : List (Nat × List AV) := [(1000000, c 1000001 1000002), (1000001, s.map AV.c), (1000002, f.map AV.c)]
abbrev mO (c : Nat → Nat → List AV) (s f : List CV) : List (Nat × List AV) := [(1000000, c 999991 999992), (999991, s.map AV.c), (999992, f.map AV.c)]
/-- Likewise where the first slice is closed. -/
abbrev mI1 (c : Nat → Nat → List AV) (f : List CV) : List (Nat × List AV) := [(1000000, c 0 1000002), (1000002, f.map AV.c)]
abbrev mO1 (c : Nat → Nat → List AV) (f : List CV) : List (Nat × List AV) := [(1000000, c 0 999992), (999992, f.map AV.c)]

def mPsi (km a1 a2 : Nat) (k : Nat) : Nat := match Nat.beq k 1000000 with
  | true => km
  | false => match Nat.beq k 999991 with
    | true => a1
    | false => match Nat.beq k 999992 with
      | true => a2
      | false => k

def mCheck (us : List Nat) (km sk fk a1 a2 : Nat) : Bool :=
  both (distinct [km, sk, fk]) (both (distinct [km, a1, a2]) (both (match mem a1 us with | true => false | false => true) (both (match mem a2 us with | true => false | false => true) (both (Nat.blt a1 1000000) (Nat.blt a2 1000000)))))

def mCheck1 (us : List Nat) (km fk a2 : Nat) : Bool := both (distinct [km, fk]) (both (distinct [km, a2]) (both (match mem a2 us with | true => false | false => true) (Nat.blt a2 1000000)))
section
variable {P : Program} {X : Ctx} {ops : Array Oper} {o : Oper} {rest : List Oper} {env : Env} {acc : List Fp} {Q : Env → St → List Fp → Prop} {bs : List (Nat × List AV)} {ts : List (Nat × Nat)} {us : List Nat}

end
end Go.Abs

namespace Go.Abs

theorem CellsW.head {w : World} {g : Gh} {b : Nat} : ∀ {cells tail : List AV} {o : Nat}, CellsW w g b o (cells ++ tail) → CellsW w g b o cells
  | [], _, _, _ => trivial
  | _ :: _, _, _, ⟨h1, h2, h3⟩ => ⟨h1, h2, CellsW.head h3⟩

theorem inv_set {w : World} {g : Gh} {σ : St} (h : Inv w g σ) {key : Nat} {cells cells' : List AV} (hk : getK key σ.boxes = some cells) (hc : ∀ b, g.box key = some b → CellsW w g b 0 cells → CellsW w g b 0 cells') :
    Inv w g ⟨setK key cells' σ.boxes, σ.toks, σ.used⟩ ∧ Keep w g σ w g ⟨setK key cells' σ.boxes, σ.toks, σ.used⟩ := by
  have hg : ∀ k cs, getK k (setK key cells' σ.boxes) = some cs → (k = key ∧ cs = cells') ∨ getK k σ.boxes = some cs := by
    intro k cs e
    rw [getK_setK] at e
    split at e
    · simp at e; exact .inl ⟨by assumption, e.symm⟩
    · exact .inr e
  have hx : ∀ k cs, getK k (setK key cells' σ.boxes) = some cs → ∃ cs0, getK k σ.boxes = some cs0 := by
    intro k cs e
    rcases hg k cs e with ⟨rfl, _⟩ | h
    · exact ⟨_, hk⟩
    · exact ⟨_, h⟩
  refine ⟨⟨h.imm, ?_, ?_, ?_, h.tokinj, h.used, ?_⟩, ⟨rfl, rfl, rfl, Nat.le_refl _, fun _ _ _ => rfl, fun _ _ _ _ => ⟨rfl, rfl⟩, Imm.le.refl _, fun _ _ _ h => .inl h, fun k cs b h1 h2 => ?_,
      fun k n b lo hi h1 h2 => .inr ⟨k, n, lo, hi, h1, h2, Nat.le_refl _, Nat.le_refl _⟩, fun k _ e => ?_⟩⟩
  · intro k cs e
    rcases hg k cs e with ⟨rfl, rfl⟩ | e'
    · obtain ⟨b, f1, f2, f3, f4⟩ := h.box k _ hk
      exact ⟨b, f1, f2, f3, hc b f1 f4⟩
    · exact h.box k cs e'
  · intro k k' cs cs' b e e'
    obtain ⟨c0, q⟩ := hx k cs e
    obtain ⟨c0', q'⟩ := hx k' cs' e'
    exact h.boxinj k k' c0 c0' b q q'
  · intro k n e
    obtain ⟨reg, h1, h2⟩ := h.tok k n e
    refine ⟨reg, h1, fun b lo hi hr => ?_⟩
    obtain ⟨h3, h4, h5⟩ := h2 b lo hi hr
    refine ⟨h3, h4, fun k' cs e' => ?_⟩
    obtain ⟨c0, q⟩ := hx k' cs e'
    exact h5 k' c0 q
  · intro k cs b e
    obtain ⟨c0, q⟩ := hx k cs e
    exact h.room k c0 b q
  · obtain ⟨c0, q⟩ := hx k cs h1
    exact .inr ⟨k, c0, q, h2⟩
  · cases hc : getK k (setK key cells' σ.boxes) with
    | none => exact absurd hc e
    | some cs =>
      obtain ⟨c0, q⟩ := hx k cs hc
      exact ⟨by rw [q]; simp, rfl, rfl⟩

section
variable {P : Program} {X : Ctx} {f : FuncId} {n : Nat} {β : Base} {R : Ending → World → Prop} {K : List Item} {env : Env}
theorem cellsW_set {w : World} {g : Gh} {b : Nat} {x y : AV} : ∀ {pre tail : List AV} {o : Nat}, (∀ u, RelA g x u → RelA g y u) → (x.one = true → y.one = true) → CellsW w g b o (pre ++ x :: tail) → CellsW w g b o (pre ++ y :: tail)
  | [], _, _, hr, ho, ⟨⟨u, h1, h2, h3⟩, h4, h5⟩ => ⟨⟨u, h1, hr u h2, ho h3⟩, h4, h5⟩
  | _ :: _, _, _, hr, ho, ⟨h1, h2, h3⟩ => ⟨h1, h2, cellsW_set hr ho h3⟩
/-- A slice without items is one into whatever box. -/
theorem AK.empty {bs : List (Nat × List AV)} {ts : List (Nat × Nat)} {us : List Nat} (key kd s : Nat) (pre tail : List AV) {cells cd : List AV} {s0 : Nat} (hk : getK key bs = some cells) (hc : cells = pre ++ .own .exact s0 [] :: tail) (hd : getK kd bs = some cd)
    {bs' : List (Nat × List AV)} (hb : setKF key (pre ++ .bsl kd 0 s 0 :: tail) bs = some bs') (h : AK P X f n β R K env ⟨bs', ts, us⟩) : AK P X f n β R K env ⟨bs, ts, us⟩ := by
  rw [setKF_eq] at hb; simp at hb; subst hb hc
  intro g w a cs hL
  obtain ⟨bd, hbd, _⟩ := hL.inv.box kd cd hd
  obtain ⟨i1, i2⟩ := inv_set hL.inv (cells' := pre ++ .bsl kd 0 s 0 :: tail) hk (fun b _ hc => cellsW_set (fun u hu => by
    simp only [RelA, OwnOk] at hu ⊢
    obtain ⟨base, len, cap, e1, e2, e3, _, e4⟩ := hu
    simp at e2; subst e2 e4
    exact ⟨bd, 0, base, hbd, e1, Nat.le_refl _, by simp, .inl rfl⟩) (fun _ => rfl) hc)
  exact h g w a cs ⟨i1, hL.glob, hL.env, hL.frame.trans i2, hL.size, hL.defers⟩
end

section
variable {P : Program} {X : Ctx}
end
section
variable {P : Program} {X : Ctx} {ops : Array Oper} {o : Oper} {rest : List Oper} {env : Env} {acc : List Fp} {Q : Env → St → List Fp → Prop} {σ : St}
end
end Go.Abs

namespace Go.Abs

section
variable {P : Program} {X : Ctx}
end

section
variable {P : Program} {X : Ctx} {ops : Array Oper} {o : Oper} {rest : List Oper} {env : Env} {acc : List Fp} {Q : Env → St → List Fp → Prop} {bs : List (Nat × List AV)} {ts : List (Nat × Nat)} {us : List Nat} {σ : St}
end
end Go.Abs

namespace Go.Abs
section
variable {P : Program} {X : Ctx}
end

section
variable {P : Program} {X : Ctx} {ops : Array Oper} {o : Oper} {rest : List Oper} {env : Env} {acc : List Fp} {Q : Env → St → List Fp → Prop} {bs : List (Nat × List AV)} {ts : List (Nat × Nat)} {us : List Nat} {σ : St}
end

section
variable {P : Program} {X : Ctx} {f : FuncId} {n : Nat} {β : Base} {R : Ending → World → Prop} {K : List Item} {env : Env}
/-- What a slice without items and room is. -/
def Em (a a' : AV) : Prop := a' = a ∨ ∃ s0 s1, a = .own .exact s0 [] ∧ a' = .own .exact s1 []
theorem Em.rel : ∀ (g : Gh) (a a' : AV) (v : Value), Em a a' → RelA g a v → RelA g a' v := by
  rintro g a a' v (rfl | ⟨s0, s1, rfl, rfl⟩) h
  · exact h
  · simp only [RelA, OwnOk] at h ⊢
    obtain ⟨base, len, cap, e1, e2, e3, _, e4⟩ := h
    exact ⟨base, len, cap, e1, e2, e3, .inl rfl, e4⟩
theorem Em.one : ∀ (a a' : AV), Em a a' → a.one = true → a'.one = true := by
  rintro a a' (rfl | ⟨s0, s1, rfl, rfl⟩) h
  · exact h
  · rfl
end
end Go.Abs

namespace Go.Abs
def mPsiK (km sk fk : Nat) (k : Nat) : Nat := match Nat.beq k 1000000 with
  | true => km
  | false => match Nat.beq k 1000001 with
    | true => sk
    | false => match Nat.beq k 1000002 with
      | true => fk
      | false => k
section
variable {P : Program} {X : Ctx} {ops : Array Oper} {o : Oper} {rest : List Oper} {env : Env} {acc : List Fp} {Q : Env → St → List Fp → Prop} {bs : List (Nat × List AV)} {ts : List (Nat × Nat)} {us : List Nat}
end
end Go.Abs
