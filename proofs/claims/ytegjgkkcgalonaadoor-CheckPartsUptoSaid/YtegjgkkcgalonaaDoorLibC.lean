/- A layer of abstract values over the model, part C: Rows of cells as one row of values; appending to a slice whose spare room is one's own. The operation append. The ghost's names turned: boxes and tokens under other keys. Calls with boxes and with slices that may be appended to: what is handed over, and what comes back. What comes back of a call with boxes, in the caller's names. Calls with boxes as steps; leaving with boxes; new names for what is known. Leaving with boxes and slices that may be appended to; going on by new names. Steps whose outcome hangs on facts: conditions that are known, texts put together and cut, bytes as texts, arrays as values. Slices into boxes: rows that may be written again. Made by an append that grows. Slices into boxes: an item, a cut, loads and stores at a place that is no literal, appends out of one, and one that is written out. -/
import Derived.Test.YtegjgkkcgalonaaDoorLibB
import Derived.Laws.AppendOwn
import Derived.Laws.IdiomStrings
set_option linter.unusedSimpArgs false
set_option linter.unusedVariables false
namespace Go.Abs

def flatC : List CV → List CV
  | [] => []
  | r :: rs => r.cells ++ flatC rs

theorem cellsG_append {G : Imm} {b : Nat} : ∀ {o : Nat} {a c : List CV}, CellsG G b o (a ++ c) ↔ CellsG G b o a ∧ CellsG G b (o + a.length) c
  | o, [], c => by simp [CellsG]
  | o, x :: a, c => by
    simp only [List.cons_append, CellsG, cellsG_append (a := a), List.length_cons, and_assoc]
    rw [show o + (a.length + 1) = o + 1 + a.length from by omega]

theorem rowsG_iff {G : Imm} {s b : Nat} : ∀ {o : Nat} {rows : List CV}, RowsG G s b o rows ↔ CellsG G b o (flatC rows) ∧ ∀ r ∈ rows, r.cells.length = s
  | o, [] => by simp [RowsG, flatC, CellsG]
  | o, r :: rs => by
    simp only [RowsG, flatC, cellsG_append, rowG_iff, rowsG_iff (rows := rs), List.mem_cons, forall_eq_or_imp]
    constructor
    · rintro ⟨h1, h2, h3, h4⟩; subst h2; exact ⟨⟨h1, h3⟩, rfl, h4⟩
    · rintro ⟨⟨h1, h3⟩, h2, h4⟩; subst h2; exact ⟨h1, rfl, h3, h4⟩

theorem flatC_length {s : Nat} : ∀ {rows : List CV}, (∀ r ∈ rows, r.cells.length = s) → (flatC rows).length = rows.length * s
  | [], _ => by simp [flatC]
  | r :: rs, h => by
    simp only [flatC, List.length_append, List.length_cons, h r (by simp), flatC_length (rows := rs) (fun x hx => h x (by simp [hx])), Nat.add_mul]
    omega

theorem flatC_append : ∀ (a c : List CV), flatC (a ++ c) = flatC a ++ flatC c
  | [], c => by simp [flatC]
  | r :: a, c => by simp [flatC, flatC_append a c]

theorem cellsG_vals {G : Imm} {b : Nat} : ∀ {o : Nat} {cs : List CV}, CellsG G b o cs → ∃ vs : List Value, RelL G cs vs ∧ (∀ (j : Nat) u, vs[j]? = some u → G b (o + j) = some u) ∧ cs.all CV.one = true
  | o, [], _ => ⟨[], by simp [RelL], by simp, rfl⟩
  | o, c :: cs, h => by
    simp only [CellsG] at h
    obtain ⟨⟨u, h1, h2, h3⟩, h4⟩ := h
    obtain ⟨vs, h5, h6, h7⟩ := cellsG_vals h4
    refine ⟨u :: vs, by simp only [RelL]; exact ⟨_, _, rfl, h2, h5⟩, ?_, by simp [h3, h7]⟩
    intro j x hj
    cases j with
    | zero => simp at hj; subst hj; simpa using h1
    | succ j => simp at hj; have := h6 j x hj; rwa [show o + (j + 1) = o + 1 + j from by omega]

theorem cellsG_of_vals {G : Imm} {b : Nat} : ∀ {o : Nat} {cs : List CV} {vs : List Value}, RelL G cs vs → (∀ (j : Nat) u, vs[j]? = some u → G b (o + j) = some u) → cs.all CV.one = true → CellsG G b o cs
  | o, [], _, _, _, _ => trivial
  | o, c :: cs, vs, h, hG, ho => by
    simp only [RelL] at h
    obtain ⟨u, us, rfl, h1, h2⟩ := h
    simp only [List.all_cons, Bool.and_eq_true] at ho
    refine ⟨⟨u, by simpa using hG 0 u (by simp), h1, ho.1⟩, cellsG_of_vals h2 (fun j x hj => ?_) ho.2⟩
    have := hG (j + 1) x (by simpa using hj)
    rwa [show o + (j + 1) = o + 1 + j from by omega] at this

theorem relL_one {G : Imm} : ∀ {cs : List CV} {vs : List Value}, RelL G cs vs → cs.all CV.one = true → ∀ u ∈ vs, u.oneCell' = true
  | [], vs, h, _, u, hu => by simp only [RelL] at h; subst h; simp at hu
  | c :: cs, vs, h, ho, u, hu => by
    simp only [RelL] at h
    obtain ⟨x, us, rfl, h1, h2⟩ := h
    simp only [List.all_cons, Bool.and_eq_true] at ho
    rcases List.mem_cons.1 hu with rfl | hu
    · exact one_oneCell (g := ⟨G, fun _ => none, fun _ => none, fun _ => 0⟩) (a := .c c) ho.1 (by simpa only [RelA] using h1)
    · exact relL_one h2 ho.2 u hu

/-- What is appended: rows of a slice, or bytes of a text. -/
def srcRows : AV → Option (Nat × List CV)
  | .own _ s rows => some (s, rows)
  | .c (.sl s rows) => some (s, rows)
  | .c (.str l) => some (1, l.map fun b => .int .u8 b.toNat)
  | _ => none

/-- Rows of one width may stand where rows of that width are wanted; where there is none, whatever was told. -/
def okStride (s t : Nat) (rows : List CV) : Bool := match Nat.beq s t with
  | true => true
  | false => match rows with
    | [] => true
    | _ => false

theorem okStride_rows {s t : Nat} {rows : List CV} (h : okStride s t rows = true) : s = t ∨ rows = [] := by
  unfold okStride at h
  split at h
  · rename_i h1; exact .inl (beq_true h1)
  · split at h
    · exact .inr rfl
    · simp at h

theorem flat_bytes : ∀ (l : List UInt8), flatC (l.map fun b => CV.int .u8 b.toNat) = l.map fun b => CV.int .u8 b.toNat
  | [] => rfl
  | b :: l => by simp [flatC, CV.cells, flat_bytes l]

section
variable {P : Program} {X : Ctx} {w : World} {g : Gh}

theorem relL_bytes (G : Imm) : ∀ (l : List UInt8), RelL G (l.map fun b => CV.int .u8 b.toNat) (l.map fun b => Value.int .u8 b.toNat)
  | [] => by simp [RelL]
  | b :: l => by simp only [List.map_cons, RelL]; exact ⟨_, _, rfl, by simp [Rel], relL_bytes G l⟩

theorem rows_read {w : World} (himm : ∀ b o v, g.G b o = some v → w.cell? ⟨b, o, none⟩ = some v) {s t : Nat} {base : Option Addr} {rows : List CV} (hr : RowsAt g.G s base rows) (hs : okStride s t rows = true) (len cap : Nat) (hl : len = rows.length) :
    ∃ news : List Value, RelL g.G (flatC rows) news ∧ (∀ r ∈ rows, r.cells.length = t) ∧ (flatC rows).all CV.one = true ∧ (Builtin.firstCells t len (.slice base len cap)).run P w = .ok news.toArray w := by
  rcases hr with rfl | ⟨b, o, rfl, hr⟩
  · refine ⟨[], by simp [flatC, RelL], by simp, rfl, ?_⟩
    simp at hl; subst hl
    cases base with
    | none => simp [Builtin.firstCells]
    | some a => exact run_firstCells_some w t 0 a 0 cap [] (by simp) (by simp)
  · rcases okStride_rows hs with rfl | rfl
    · rw [rowsG_iff] at hr
      obtain ⟨vs, h1, h2, h3⟩ := cellsG_vals hr.1
      refine ⟨vs, h1, hr.2, h3, ?_⟩
      refine run_firstCells_some w s len _ len cap vs ?_ ?_
      · rw [← (RelL.get h1).1, flatC_length hr.2, hl]
      · intro j v hj; rw [Addr.add_lit]; exact himm _ _ _ (h2 j v hj)
    · refine ⟨[], by simp [flatC, RelL], by simp, rfl, ?_⟩
      simp at hl; subst hl
      exact run_firstCells_some w t 0 _ 0 cap [] (by simp) (by simp)

theorem src_read {w : World} (himm : ∀ b o v, g.G b o = some v → w.cell? ⟨b, o, none⟩ = some v) {a : AV} {s t : Nat} {rows : List CV} (ha : srcRows a = some (s, rows)) (hs : okStride s t rows = true) {x : Value} (hx : RelA g a x) :
    (∃ news : List Value, RelL g.G (flatC rows) news ∧ (∀ r ∈ rows, r.cells.length = t) ∧ (flatC rows).all CV.one = true ∧ (Builtin.firstCells t rows.length x).run P w = .ok news.toArray w) ∧ (Builtin.lenOf x).run P w = .ok rows.length w := by
  unfold srcRows at ha
  split at ha <;> simp at ha
  · obtain ⟨rfl, rfl⟩ := ha
    simp only [RelA] at hx
    obtain ⟨base, len, cap, rfl, h1, h2, h3, h4⟩ := hx
    obtain ⟨news, n1, n2, n3, n4⟩ := rows_read (P := P) himm h3 hs len cap h1
    exact ⟨⟨news, n1, n2, n3, by rw [← h1]; exact n4⟩, by simp [Builtin.lenOf, h1]⟩
  · obtain ⟨rfl, rfl⟩ := ha
    simp only [RelA, Rel] at hx
    obtain ⟨base, len, cap, rfl, h1, h2, h3⟩ := hx
    obtain ⟨news, n1, n2, n3, n4⟩ := rows_read (P := P) himm h3 hs len cap h1
    exact ⟨⟨news, n1, n2, n3, by rw [← h1]; exact n4⟩, by simp [Builtin.lenOf, h1]⟩
  · rename_i l
    obtain ⟨rfl, rfl⟩ := ha
    simp only [RelA, Rel] at hx
    subst hx
    have hone : ((l.map fun b => CV.int .u8 b.toNat).all CV.one) = true := by simp [CV.one]
    have ht : t = 1 ∨ l = [] := by
      rcases okStride_rows hs with h | h
      · exact .inl h.symm
      · right; simpa using h
    refine ⟨⟨l.map fun b => Value.int .u8 b.toNat, by rw [flat_bytes]; exact relL_bytes _ l, ?_, by rw [flat_bytes]; exact hone, ?_⟩, ?_⟩
    · intro r hr
      rcases ht with rfl | rfl
      · simp at hr; obtain ⟨b, _, rfl⟩ := hr; rfl
      · simp at hr
    · simp only [Builtin.firstCells, Sem.run_pure, List.length_map]
      congr 1
      have : (ByteArray.mk l.toArray).extract 0 l.length = ⟨l.toArray⟩ := by rw [extract_mk]; simp
      rw [this]; simp
    · simp [Builtin.lenOf, ByteArray.size]

theorem kind_src (hX : CtxOk P X) {t : Nat} {i : TI} (hi : X.ti t = some i) (hk : (match i.kind with | .slice _ | .str => true | _ => false) = true) (w : World) :
    ∃ d, P.underlying t = some d ∧ (d = .string ∨ ∃ e, d = .slice e) := by
  obtain ⟨d, h1, h2, h3⟩ := hX.run_underlying (w := w) hi
  refine ⟨d, h3, ?_⟩
  split at hk
  · rename_i e he; rw [he] at h2; simp only [KindOk] at h2; exact .inr ⟨e, h2⟩
  · rename_i he; rw [he] at h2; simp only [KindOk] at h2; exact .inl h2
  · simp at hk

theorem run_append_room' {t t1 ty e : TypeId} {d1 : TypeDesc} (ht : P.underlying t = some (.slice e)) (h1 : P.underlying t1 = some d1) (hd : d1 = .string ∨ ∃ e, d1 = .slice e) {i : TypeInfo} (hi : P.info? e = some i)
    {base : Option Addr} {sLen sCap n : Nat} {x : Value} {news : List Value} (hl : (Builtin.lenOf x).run P w = .ok n w) (hf : (Builtin.firstCells i.size n x).run P w = .ok news.toArray w) (hroom : sLen + n ≤ sCap)
    {w' : World} (hst : match (motive := Option Addr → Prop) base with | some a => (storeCells (a.add (sLen * i.size)) news).run P w = .ok () w' | none => w' = w) :
    (Builtin.append_ #[t, t1] ty #[.slice base sLen sCap, x]).run P w = .ok (.slice base (sLen + n) sCap) w' := by
  rcases hd with rfl | ⟨e1, rfl⟩
  all_goals
    cases base with
    | none =>
      simp only at hst; subst hst
      simp [Builtin.append_, run_underlying ht, run_underlying h1, sizeOf, typeInfo, hi, hl, hroom, hf]
    | some a =>
      simp only at hst
      simp [Builtin.append_, run_underlying ht, run_underlying h1, sizeOf, typeInfo, hi, hl, hroom, hf, hst]

theorem run_append_grow' {t t1 ty e : TypeId} {d1 : TypeDesc} (ht : P.underlying t = some (.slice e)) (h1 : P.underlying t1 = some d1) (hd : d1 = .string ∨ ∃ e, d1 = .slice e) {i : TypeInfo} (hi : P.info? e = some i) {z : Value} (hz : i.zero = some z)
    {base : Option Addr} {sLen sCap n : Nat} {x : Value} {olds news : List Value} (hl : (Builtin.lenOf x).run P w = .ok n w) (hf : (Builtin.firstCells i.size n x).run P w.drew = .ok news.toArray w.drew)
    (hfo : (Builtin.firstCells i.size sLen (.slice base sLen sCap)).run P w.drew = .ok olds.toArray w.drew) (hg : sCap < sLen + n) (h63 : sLen + n ≤ 140737488355328) (hb : (sLen + n) * i.bytes ≤ 140737488355328) :
    (Builtin.append_ #[t, t1] ty #[.slice base sLen sCap, x]).run P w =
      .ok (.slice (some ⟨w.heap.size, 0, none⟩) (sLen + n) (grownCap w (sLen + n) sCap e))
        (w.drew.alloc (.cells (olds.toArray ++ news.toArray ++ Builtin.zeroCells z.cells (grownCap w (sLen + n) sCap e - (sLen + n))) e)) := by
  have hn : ¬ (sLen + n ≤ sCap) := by omega
  have h63' : ¬ (9223372036854775807 < ((sLen : Int) + (n : Int))) := by omega
  have h48' : ¬ (281474976710656 < Builtin.nextslicecap (sLen + n) sCap * i.bytes) := by have := growslice_fits hg hb; omega
  rcases hd with rfl | ⟨e1, rfl⟩
  all_goals
    simp [Builtin.append_, run_underlying ht, run_underlying h1, sizeOf, typeInfo, zeroValue, hi, hz, hl, hn, h63', h48', Question.forced, hf, hfo, newRow, grownCap]
    congr 2
    apply Array.ext'
    simp [List.append_assoc]

/-- A new block: its first cells are never written again, the rest is a token's. -/
theorem newTok {w : World} {g : Gh} {σ : St} (hinv : Inv w g σ) (us : Array Value) (t : TypeId) (k : Nat) (hk : k ≤ us.size) (key n : Nat) (hkey : key ∉ σ.used ∨ ∃ n0, getK key σ.toks = some n0 ∧ n0 < n) (w' : World) (hw' : w' = { w with heap := w.heap.push (.cells us t), drawn := w'.drawn }) :
    let g' : Gh := ⟨fun b o => if b = w.heap.size ∧ o < k then us[o]? else g.G b o, g.box, fun j => if j = key then some (n, some (w.heap.size, k, us.size)) else g.tok j, g.room⟩
    let σ' : St := ⟨σ.boxes, setK key n σ.toks, key :: σ.used⟩
    Inv w' g' σ' ∧ Keep w g σ w' g' σ' ∧ g.le g' := by
  intro g' σ'
  have hheap : w'.heap = w.heap.push (.cells us t) := by rw [hw']
  have hcold : ∀ b o, b < w.heap.size → w'.cell? ⟨b, o, none⟩ = w.cell? ⟨b, o, none⟩ ∧ w'.frozen? ⟨b, o, none⟩ = w.frozen? ⟨b, o, none⟩ := by
    intro b o hb
    simp only [World.cell?, World.frozen?, hheap]
    rw [Array.getElem?_push, if_neg (by omega)]
    exact ⟨rfl, rfl⟩
  have hcnew : ∀ o, w'.cell? ⟨w.heap.size, o, none⟩ = us[o]? ∧ w'.frozen? ⟨w.heap.size, o, none⟩ = false := by
    intro o
    simp only [World.cell?, World.frozen?, hheap]
    rw [Array.getElem?_push, if_pos rfl]
    simp
  have hsz : w'.heap.size = w.heap.size + 1 := by rw [hheap]; simp
  have hGlt : ∀ b o v, g.G b o = some v → b < w.heap.size := fun b o v h => World.block_lt_of_cell? w ⟨b, o, none⟩ (hinv.imm b o v h)
  have htokold : ∀ hw reg, g.tok key = some (hw, reg) → hw < n := by
    intro hw reg e
    rcases hkey with hkey | ⟨n0, h1, h2⟩
    · exact absurd (hinv.used key (.inr (by rw [e]; simp))) hkey
    · obtain ⟨reg', h3, _⟩ := hinv.tok key n0 h1
      rw [e] at h3; simp at h3; omega
  have hle : g.le g' := by
    refine ⟨fun b o v h => ?_, fun _ _ h => h, fun _ _ _ => rfl, fun j hw reg h => ?_⟩
    · have := hGlt b o v h
      simp only [g']; rw [if_neg (by omega)]; exact h
    · simp only [g']
      split
      · rename_i hj; subst hj
        have := htokold hw reg h
        exact ⟨n, _, rfl, by omega, by omega⟩
      · exact ⟨hw, reg, h, Nat.le_refl _, fun _ => rfl⟩
  have hGsame : ∀ b o, b < w.heap.size → g'.G b o = g.G b o := by
    intro b o hb; simp only [g']; rw [if_neg (by omega)]
  have hrest : w'.os = w.os ∧ w'.tape = w.tape ∧ w'.output = w.output := by rw [hw']; exact ⟨rfl, rfl, rfl⟩
  refine ⟨⟨?_, ?_, hinv.boxinj, ?_, ?_, ?_, hinv.room_same fun k cs b _ _ hb o => hcold b o hb⟩, ⟨hrest.1, hrest.2.1, hrest.2.2, by omega, fun b hb _ => by rw [hheap, Array.getElem?_push, if_neg (by omega)], fun b o hb _ => hcold b o hb, hle.1, ?_, ?_, ?_, fun _ _ h => ⟨h, rfl, rfl⟩⟩, hle⟩
  · intro b o v h
    simp only [g'] at h
    split at h
    · rename_i hb; obtain ⟨rfl, _⟩ := hb; rw [(hcnew o).1]; exact h
    · rw [(hcold b o (hGlt b o v h)).1]; exact hinv.imm b o v h
  · intro k cs e
    obtain ⟨b, h1, h2, h3, h4⟩ := hinv.box k cs e
    exact ⟨b, h1, by omega, fun o => by rw [hGsame b o h2]; exact h3 o, (CellsW.of_same (fun o => hcold b o h2) h4).mono hle⟩
  · intro j m e
    simp only [σ', getK_setK] at e
    simp only [g']
    split at e
    · rename_i hj; subst hj
      simp at e; subst e
      rw [if_pos rfl]
      refine ⟨_, rfl, fun b lo hi hr => ?_⟩
      simp at hr; obtain ⟨rfl, rfl, rfl⟩ := hr
      refine ⟨by omega, fun o h1 h2 => ⟨?_, ⟨us[o], ?_⟩, (hcnew o).2⟩, fun k' cs e' he => ?_⟩
      · rw [if_neg (by omega)]
        cases hg : g.G w.heap.size o with
        | none => rfl
        | some v => have := hGlt _ _ _ hg; omega
      · rw [(hcnew o).1]; simp [h2]
      · obtain ⟨b', f1, f2, _⟩ := hinv.box k' cs e'
        rw [f1] at he; simp at he; omega
    · rename_i hj
      rw [if_neg hj]
      obtain ⟨reg, h1, h2⟩ := hinv.tok j m e
      refine ⟨reg, h1, fun b lo hi hr => ?_⟩
      obtain ⟨h3, h4, h5⟩ := h2 b lo hi hr
      refine ⟨by omega, fun o ho1 ho2 => ?_, h5⟩
      obtain ⟨h6, ⟨u, h7⟩, h8⟩ := h4 o ho1 ho2
      exact ⟨by rw [if_neg (by omega)]; exact h6, ⟨u, (hcold b o h3).1.trans h7⟩, (hcold b o h3).2.trans h8⟩
  · intro j j' m m' b lo hi lo' hi' e e' e1 e2
    simp only [σ', getK_setK] at e e'
    simp only [g'] at e1 e2
    split at e
    · rename_i hj; subst hj
      rw [if_pos rfl] at e1
      simp at e1; obtain ⟨_, rfl, _, _⟩ := e1
      split at e'
      · rename_i hj'; exact hj'.symm
      · rename_i hj'
        rw [if_neg hj'] at e2
        obtain ⟨reg, h1, h2⟩ := hinv.tok j' m' e'
        rw [e2] at h1; simp at h1
        have := (h2 _ _ _ h1.symm).1
        omega
    · rename_i hj
      rw [if_neg hj] at e1
      split at e'
      · rename_i hj'; subst hj'
        rw [if_pos rfl] at e2
        simp at e2; obtain ⟨_, rfl, _, _⟩ := e2
        obtain ⟨reg, h1, h2⟩ := hinv.tok j m e
        rw [e1] at h1; simp at h1
        have := (h2 _ _ _ h1.symm).1
        omega
      · rename_i hj'
        rw [if_neg hj'] at e2
        exact hinv.tokinj j j' m m' b lo hi lo' hi' e e' e1 e2
  · intro j e
    simp only [σ', List.mem_cons]
    by_cases hj : j = key
    · exact .inl hj
    · right; apply hinv.used j; simpa [g', hj] using e
  · intro b o v h
    simp only [g'] at h
    split at h
    · rename_i hb; right; left; omega
    · exact .inl h
  · exact fun k cs b h1 h2 => .inr ⟨k, cs, h1, h2⟩
  · intro j m b lo hi e1 e2
    simp only [σ', getK_setK] at e1
    simp only [g'] at e2
    split at e1
    · rename_i hj; subst hj
      rw [if_pos rfl] at e2
      simp at e2; left; omega
    · rename_i hj
      rw [if_neg hj] at e2
      exact .inr ⟨j, m, lo, hi, e1, e2, Nat.le_refl _, Nat.le_refl _⟩

/-- The token turns, and nothing else. -/
theorem bumpTok {w : World} {g : Gh} {σ : St} (hinv : Inv w g σ) (key n : Nat) (reg : Option (Nat × Nat × Nat)) (hkey : (key ∉ σ.used ∧ reg = none) ∨ ∃ n0, g.tok key = some (n0, reg) ∧ getK key σ.toks = some n0 ∧ n0 < n) :
    let g' : Gh := ⟨g.G, g.box, fun j => if j = key then some (n, reg) else g.tok j, g.room⟩
    let σ' : St := ⟨σ.boxes, setK key n σ.toks, key :: σ.used⟩
    Inv w g' σ' ∧ Keep w g σ w g' σ' ∧ g.le g' := by
  intro g' σ'
  have hle : g.le g' := by
    refine ⟨Imm.le.refl _, fun _ _ h => h, fun _ _ _ => rfl, fun j hw r h => ?_⟩
    simp only [g']
    split
    · rename_i hj; subst hj
      rcases hkey with ⟨hkey, _⟩ | ⟨n0, h1, h2, h3⟩
      · exact absurd (hinv.used j (.inr (by rw [h]; simp))) hkey
      · rw [h] at h1; simp at h1; exact ⟨n, _, rfl, by omega, by omega⟩
    · exact ⟨hw, r, h, Nat.le_refl _, fun _ => rfl⟩
  refine ⟨⟨hinv.imm, ?_, hinv.boxinj, ?_, ?_, ?_, hinv.room⟩, ⟨rfl, rfl, rfl, Nat.le_refl _, fun _ _ _ => rfl, fun _ _ _ _ => ⟨rfl, rfl⟩, Imm.le.refl _, fun _ _ _ h => .inl h, fun k cs b h1 h2 => .inr ⟨k, cs, h1, h2⟩, ?_, fun _ _ h => ⟨h, rfl, rfl⟩⟩, hle⟩
  · intro k cs e
    obtain ⟨b, h1, h2, h3, h4⟩ := hinv.box k cs e
    exact ⟨b, h1, h2, h3, h4.mono hle⟩
  · intro j m e
    simp only [σ', getK_setK] at e
    simp only [g']
    split at e
    · rename_i hj; subst hj
      simp at e; subst e
      rw [if_pos rfl]
      refine ⟨_, rfl, fun b lo hi hr => ?_⟩
      rcases hkey with ⟨_, rfl⟩ | ⟨n0, h1, h2, h3⟩
      · simp at hr
      · obtain ⟨reg', f1, f2⟩ := hinv.tok j n0 h2
        rw [h1] at f1; simp at f1; subst f1
        exact f2 b lo hi hr
    · rename_i hj
      rw [if_neg hj]
      exact hinv.tok j m e
  · intro j j' m m' b lo hi lo' hi' e e' e1 e2
    have key' : ∀ j m b lo hi, getK j σ'.toks = some m → g'.tok j = some (m, some (b, lo, hi)) → ∃ m0, getK j σ.toks = some m0 ∧ g.tok j = some (m0, some (b, lo, hi)) := by
      intro j m b lo hi e e1
      simp only [σ', getK_setK] at e
      simp only [g'] at e1
      split at e
      · rename_i hj; subst hj
        rw [if_pos rfl] at e1
        rcases hkey with ⟨_, rfl⟩ | ⟨n0, h1, h2, h3⟩
        · simp at e1
        · simp at e1; obtain ⟨_, rfl⟩ := e1; exact ⟨n0, h2, h1⟩
      · rename_i hj
        rw [if_neg hj] at e1
        exact ⟨m, e, e1⟩
    obtain ⟨m0, f1, f2⟩ := key' j m b lo hi e e1
    obtain ⟨m0', f1', f2'⟩ := key' j' m' b lo' hi' e' e2
    exact hinv.tokinj j j' m0 m0' b lo hi lo' hi' f1 f1' f2 f2'
  · intro j e
    simp only [σ', List.mem_cons]
    by_cases hj : j = key
    · exact .inl hj
    · right; apply hinv.used j; simpa [g', hj] using e
  · intro j m b lo hi e1 e2
    simp only [σ', getK_setK] at e1
    simp only [g'] at e2
    split at e1
    · rename_i hj; subst hj
      rw [if_pos rfl] at e2
      rcases hkey with ⟨_, rfl⟩ | ⟨n0, h1, h2, h3⟩
      · simp at e2
      · simp at e2; obtain ⟨_, rfl⟩ := e2; exact .inr ⟨j, n0, lo, hi, h2, h1, Nat.le_refl _, Nat.le_refl _⟩
    · rename_i hj
      rw [if_neg hj] at e2
      exact .inr ⟨j, m, lo, hi, e1, e2, Nat.le_refl _, Nat.le_refl _⟩

/-- Cells of a token's room are written, and never again. -/
theorem fillTok {w w' : World} {g : Gh} {σ : St} (hinv : Inv w g σ) {key n b lo hi : Nat} (hk : getK key σ.toks = some n) (hg : g.tok key = some (n, some (b, lo, hi))) (vs : List Value) (hfit : lo + vs.length ≤ hi)
    (r2 : w'.heap.size = w.heap.size ∧ w'.os = w.os ∧ w'.tape = w.tape ∧ w'.output = w.output ∧ ∀ b', b' ≠ b → w'.heap[b']? = w.heap[b']?)
    (r3 : ∀ b' o', b' ≠ b ∨ o' < lo ∨ lo + vs.length ≤ o' → w'.cell? ⟨b', o', none⟩ = w.cell? ⟨b', o', none⟩) (r4 : ∀ b' o', w'.frozen? ⟨b', o', none⟩ = w.frozen? ⟨b', o', none⟩)
    (r5 : ∀ j v, vs[j]? = some v → w'.cell? ⟨b, lo + j, none⟩ = some v) (hne : vs ≠ []) :
    let g' : Gh := ⟨fun b' o => if b' = b ∧ lo ≤ o ∧ o < lo + vs.length then vs[o - lo]? else g.G b' o, g.box, fun j => if j = key then some (n + 1, some (b, lo + vs.length, hi)) else g.tok j, g.room⟩
    let σ' : St := ⟨σ.boxes, setK key (n + 1) σ.toks, key :: σ.used⟩
    Inv w' g' σ' ∧ Keep w g σ w' g' σ' ∧ g.le g' := by
  intro g' σ'
  obtain ⟨reg0, t1, t2⟩ := hinv.tok key n hk
  rw [hg] at t1; simp at t1; subst t1
  obtain ⟨t3, t4, t5⟩ := t2 b lo hi rfl
  have hlen : 0 < vs.length := List.length_pos_iff.2 hne
  have hGout : ∀ b' o v, g.G b' o = some v → ¬ (b' = b ∧ lo ≤ o ∧ o < lo + vs.length) := by
    rintro b' o v h ⟨rfl, h1, h2⟩
    rw [(t4 o h1 (by omega)).1] at h; simp at h
  have hle : g.le g' := by
    refine ⟨fun b' o v h => ?_, fun _ _ h => h, fun _ _ _ => rfl, fun j hw r h => ?_⟩
    · simp only [g']; rw [if_neg (hGout b' o v h)]; exact h
    · simp only [g']
      split
      · rename_i hj; subst hj
        rw [hg] at h; simp at h; exact ⟨n + 1, _, rfl, by omega, by omega⟩
      · exact ⟨hw, r, h, Nat.le_refl _, fun _ => rfl⟩
  have hcell : ∀ b' o, ¬ (b' = b ∧ lo ≤ o ∧ o < lo + vs.length) → w'.cell? ⟨b', o, none⟩ = w.cell? ⟨b', o, none⟩ := by
    intro b' o h; exact r3 b' o (by omega)
  refine ⟨⟨?_, ?_, hinv.boxinj, ?_, ?_, ?_, hinv.room_same fun k cs b' e h1 hb o => ⟨hcell b' o (by rintro ⟨rfl, _⟩; exact t5 k cs e h1), r4 b' o⟩⟩, ⟨r2.2.1, r2.2.2.1, r2.2.2.2.1, by omega, fun b' hb' hno => r2.2.2.2.2 b' (by rintro rfl; exact hno lo (.inr ⟨key, n, lo, hi, hk, hg, by omega, by omega⟩)), fun b' o hb' hno => ⟨hcell b' o ?_, r4 b' o⟩, hle.1, ?_, fun k cs b h1 h2 => .inr ⟨k, cs, h1, h2⟩, ?_, fun _ _ h => ⟨h, rfl, rfl⟩⟩, hle⟩
  · intro b' o v h
    simp only [g'] at h
    split at h
    · rename_i hb; obtain ⟨rfl, h1, h2⟩ := hb
      have := r5 (o - lo) v h
      rwa [show lo + (o - lo) = o from by omega] at this
    · rename_i hb; rw [hcell b' o hb]; exact hinv.imm b' o v h
  · intro k cs e
    obtain ⟨b', h1, h2, h3, h4⟩ := hinv.box k cs e
    have hbb : b' ≠ b := by rintro rfl; exact t5 k cs e h1
    exact ⟨b', h1, by omega, fun o => by simp only [g']; rw [if_neg (by omega)]; exact h3 o, (CellsW.of_same (fun o => ⟨hcell b' o (by omega), r4 b' o⟩) h4).mono hle⟩
  · intro j m e
    simp only [σ', getK_setK] at e
    simp only [g']
    split at e
    · rename_i hj; subst hj
      simp at e; subst e
      rw [if_pos rfl]
      refine ⟨_, rfl, fun b' lo' hi' hr => ?_⟩
      simp at hr; obtain ⟨rfl, rfl, rfl⟩ := hr
      refine ⟨by omega, fun o h1 h2 => ?_, t5⟩
      obtain ⟨h6, ⟨u, h7⟩, h8⟩ := t4 o (by omega) h2
      exact ⟨by rw [if_neg (by omega)]; exact h6, ⟨u, (hcell b o (by omega)).trans h7⟩, (r4 b o).trans h8⟩
    · rename_i hj
      rw [if_neg hj]
      obtain ⟨reg, h1, h2⟩ := hinv.tok j m e
      refine ⟨reg, h1, fun b' lo' hi' hr => ?_⟩
      obtain ⟨h3, h4, h5⟩ := h2 b' lo' hi' hr
      have hbb : b' ≠ b := by
        rintro rfl; subst hr
        exact hj (hinv.tokinj j key m n b' lo' hi' lo hi e hk h1 hg)
      refine ⟨by omega, fun o ho1 ho2 => ?_, h5⟩
      obtain ⟨h6, ⟨u, h7⟩, h8⟩ := h4 o ho1 ho2
      exact ⟨by rw [if_neg (by omega)]; exact h6, ⟨u, (hcell b' o (by omega)).trans h7⟩, (r4 b' o).trans h8⟩
  · intro j j' m m' b1 lo1 hi1 lo2 hi2 e e' e1 e2
    have key' : ∀ j m b1 lo1 hi1, getK j σ'.toks = some m → g'.tok j = some (m, some (b1, lo1, hi1)) → ∃ m0 lo0 hi0, getK j σ.toks = some m0 ∧ g.tok j = some (m0, some (b1, lo0, hi0)) := by
      intro j m b1 lo1 hi1 e e1
      simp only [σ', getK_setK] at e
      simp only [g'] at e1
      split at e
      · rename_i hj; subst hj
        rw [if_pos rfl] at e1
        simp at e1; obtain ⟨_, rfl, _, _⟩ := e1
        exact ⟨n, lo, hi, hk, hg⟩
      · rename_i hj
        rw [if_neg hj] at e1
        exact ⟨m, lo1, hi1, e, e1⟩
    obtain ⟨m0, l0, h0, f1, f2⟩ := key' j m b1 lo1 hi1 e e1
    obtain ⟨m0', l0', h0', f1', f2'⟩ := key' j' m' b1 lo2 hi2 e' e2
    exact hinv.tokinj j j' m0 m0' b1 l0 h0 l0' h0' f1 f1' f2 f2'
  · intro j e
    simp only [σ', List.mem_cons]
    by_cases hj : j = key
    · exact .inl hj
    · right; apply hinv.used j; simpa [g', hj] using e
  · rintro ⟨rfl, h1, h2⟩; exact hno (.inr ⟨key, n, lo, hi, hk, hg, by omega, by omega⟩)
  · intro b' o v h
    simp only [g'] at h
    split at h
    · rename_i hb; obtain ⟨rfl, h1, h2⟩ := hb
      exact .inr (.inr (.inr ⟨key, n, lo, hi, hk, hg, by omega, by omega⟩))
    · exact .inl h
  · intro j m b' lo' hi' e1 e2
    simp only [σ', getK_setK] at e1
    simp only [g'] at e2
    split at e1
    · rename_i hj; subst hj
      rw [if_pos rfl] at e2
      simp at e2; obtain ⟨_, rfl, rfl, rfl⟩ := e2
      exact .inr ⟨j, n, lo, hi, hk, hg, by omega, Nat.le_refl _⟩
    · rename_i hj
      rw [if_neg hj] at e2
      exact .inr ⟨j, m, lo', hi', e1, e2, Nat.le_refl _, Nat.le_refl _⟩

end
end Go.Abs

namespace Go.Abs

/-- The token of what comes of an append. -/
def appKey (d : Nat) (us : List Nat) (ts : List (Nat × Nat)) : Own → Option (Nat × Nat)
  | .exact => match mem d us with
    | false => some (d, 0)
    | true => none
  | .tok k m => match getK k ts with
    | some m' => match Nat.beq m' m with
      | true => some (k, m + 1)
      | false => none
    | none => none

def okOwn (s t : Nat) (rows : List CV) : Own → Bool
  | .exact => okStride s t rows
  | .tok _ _ => Nat.beq s t

theorem okOwn_stride {s t : Nat} {rows : List CV} : ∀ {o : Own}, okOwn s t rows o = true → okStride s t rows = true
  | .exact, h => h
  | .tok _ _, h => by simp only [okOwn] at h; simp [okStride, h]

def srcKind : TK → Bool
  | .slice _ | .str => true
  | _ => false

theorem setTok_eff (key n : Nat) : EffOk (fun σ => (⟨σ.boxes, setK key n σ.toks, key :: σ.used⟩ : St)) ⟨[], [key]⟩ where
  out := fun σ k hk => by
    have : k ≠ key := by simpa using hk
    refine ⟨rfl, ?_, ?_⟩
    · simp only [getK_setK, if_neg this]
    · simp [this]
  same := fun σ σ1 h k hk => by
    have : k = key := by simpa using hk
    subst this
    refine ⟨(h k (.inr (by simp))).1, ?_, ?_⟩
    · simp [getK_setK]
    · simp

section
variable {P : Program} {X : Ctx}

theorem rows_join {G' : Imm} {s b o : Nat} {rows rows1 : List CV} {olds news : List Value} (h1 : RelL G' (flatC rows) olds) (h2 : RelL G' (flatC rows1) news) (c1 : ∀ r ∈ rows, r.cells.length = s) (c2 : ∀ r ∈ rows1, r.cells.length = s)
    (o1 : (flatC rows).all CV.one = true) (o2 : (flatC rows1).all CV.one = true) (hG : ∀ (j : Nat) u, (olds ++ news)[j]? = some u → G' b (o + j) = some u) : RowsG G' s b o (rows ++ rows1) := by
  rw [rowsG_iff, flatC_append]
  refine ⟨cellsG_of_vals (relL_append h1 h2) hG (by rw [List.all_append, o1, o2]; rfl), ?_⟩
  intro r hr
  rcases List.mem_append.1 hr with hr | hr
  · exact c1 r hr
  · exact c2 r hr

set_option maxHeartbeats 1600000 in
theorem OpSem.append (hX : CtxOk P X) {o : Oper} {env : Env} {σ : St} {args : Array Operand} {ats : Array TypeId} (ho : o.op = .call { callee := .builtin .append, args := args, argTypes := ats })
    {xs y : Operand} (hargs : args.toList = [xs, y]) {t t1 : Nat} (hats : ats.toList = [t, t1]) {d : Nat}
    {i j i1 : TI} {e : Nat} (hi : X.ti t = some i) (hk : i.kind = .slice e) (hj : X.ti e = some j) {za : AV} (hz : j.zero = some za) (hi1 : X.ti t1 = some i1) (hk1 : srcKind i1.kind = true)
    {ow : Own} {s : Nat} {rows : List CV} (ha : aeval X env xs = some (.own ow s rows)) {b : AV} (hb : aeval X env y = some b) {s1 : Nat} {rows1 : List CV} (hsrc : srcRows b = some (s1, rows1))
    (hs : okOwn s j.size rows ow = true) (hs1 : okStride s1 j.size rows1 = true) {key n : Nat} (hkey : appKey d σ.used σ.toks ow = some (key, n)) (hby : Nat.ble 1 j.bytes = true) (hbound : (rows.length + rows1.length) * j.bytes ≤ 140737488355328) :
    OpSem P X o env σ (.own (.tok key n) j.size (rows ++ rows1)) (fun σ => ⟨σ.boxes, setK key n σ.toks, key :: σ.used⟩) ⟨[], [key]⟩ := by
  intro env1 σ1 w g act next Q h1 h2 hinv hglob henv hnext
  have hopd : ∀ x ∈ args.toList, x ∈ o.op.operands.toList := by
    intro x hx
    rw [ho]; simp only [Op.operands, Call.operands, Array.toList_append, List.mem_append]; exact .inr hx
  have ha' : aeval X env1 xs = some (.own ow s rows) := by rw [h1 xs (hopd xs (by simp [hargs]))]; exact ha
  have hb' : aeval X env1 y = some b := by rw [h1 y (hopd y (by simp [hargs]))]; exact hb
  have rA := aeval_ok (a := act) henv hglob ha'
  have rB := aeval_ok (a := act) henv hglob hb'
  simp only [RelA] at rA
  obtain ⟨base, len, cap, ex, hlen, hcap, hrows, hown⟩ := rA
  obtain ⟨⟨news, n1, n2, n3, n4⟩, n5⟩ := src_read (P := P) (w := w) hinv.imm hsrc hs1 rB
  obtain ⟨⟨news', n1', n2', n3', n4'⟩, _⟩ := src_read (P := P) (w := w.drew) (fun b o v h => by rw [World.cell?_drew]; exact hinv.imm b o v h) hsrc hs1 rB
  obtain ⟨olds, m1, m2, m3, m4⟩ := rows_read (P := P) (w := w.drew) (g := g) (fun b o v h => by rw [World.cell?_drew]; exact hinv.imm b o v h) hrows (okOwn_stride hs) len cap hlen
  obtain ⟨dt, _, hdt2, hdt3⟩ := hX.run_underlying (w := w) hi
  rw [hk] at hdt2; simp only [KindOk] at hdt2; subst hdt2
  obtain ⟨d1, hd1, hd1'⟩ := kind_src hX hi1 (by unfold srcKind at hk1; exact hk1) w
  obtain ⟨inf, if1, if2, if3, if4, _, if6⟩ := hX.ti e j hj
  obtain ⟨z, z1, _, z3⟩ := if4 za hz
  have hnl : news.length = rows1.length * j.size := by rw [← (RelL.get n1).1, flatC_length n2]
  have hnl' : news'.length = rows1.length * j.size := by rw [← (RelL.get n1').1, flatC_length n2']
  have hol : olds.length = rows.length * j.size := by rw [← (RelL.get m1).1, flatC_length m2]
  have hargs' : args = #[xs, y] := by cases args; simp_all
  have hats' : ats = #[t, t1] := by cases ats; simp_all
  have hby' := Nat.le_of_ble_eq_true hby
  have hsmall : rows.length + rows1.length ≤ 140737488355328 := Nat.le_trans (Nat.le_mul_of_pos_right _ hby') hbound
  have hgo : ∀ (v : Value) (w' : World), (Builtin.append_ #[t, t1] o.type #[.slice base len cap, act.eval y]).run P w = .ok v w' → (execOp act.eval o).run P w = .ok (.value v) w' := by
    intro v w' hr
    obtain ⟨dst, op, type, pos, after, guard⟩ := o
    simp only at ho hr; subst ho
    subst hargs' hats'
    simp [execOp, resolve, invoke, builtin, ex, hr, Result.andThen]
  unfold Oper.wp
  by_cases hroom : len + rows1.length ≤ cap
  · by_cases h0 : rows1.length = 0
    · obtain rfl : rows1 = [] := List.eq_nil_of_length_eq_zero h0
      have hn0 : news = [] := by simpa [flatC, RelL] using n1
      subst hn0
      rw [hgo _ w (run_append_room' (w' := w) hdt3 hd1 hd1' if1 n5 (by rw [if2]; exact n4) hroom (by cases base <;> simp [storeCells]))]
      rw [Oper.upon_value]
      have hbump : ∃ reg, ((key ∉ σ1.used ∧ reg = none) ∨ ∃ n0, g.tok key = some (n0, reg) ∧ getK key σ1.toks = some n0 ∧ n0 < n) ∧
          (cap = len ∨ ∃ b lo hi o, reg = some (b, lo, hi) ∧ base = some ⟨b, o, none⟩ ∧ lo = o + len * j.size ∧ hi = o + cap * j.size ∧ len ≤ cap) := by
        cases ow with
        | exact =>
          simp only [appKey] at hkey
          split at hkey
          · rename_i hu
            simp at hkey; obtain ⟨rfl, rfl⟩ := hkey
            exact ⟨none, .inl ⟨fun h => not_mem_used hu ((h2 d (.inr (by simp))).2.2.1 h), rfl⟩, .inl hown⟩
          · simp at hkey
        | tok k m =>
          simp only [appKey] at hkey
          split at hkey
          · rename_i m' hm'
            split at hkey
            · rename_i hmm
              simp at hkey; obtain ⟨rfl, rfl⟩ := hkey
              have := beq_true hmm; subst this
              have hm1 : getK k σ1.toks = some m' := by rw [(h2 k (.inr (by simp))).2.1]; exact hm'
              obtain ⟨hw, reg, e1, e2, e3⟩ := hown
              obtain ⟨reg', e4, _⟩ := hinv.tok k m' hm1
              rw [e1] at e4; simp at e4; obtain ⟨rfl, rfl⟩ := e4
              simp only [okOwn] at hs
              have := beq_true hs; subst this
              exact ⟨reg, .inr ⟨hw, e1, hm1, by omega⟩, e3 rfl⟩
            · simp at hkey
          · simp at hkey
      obtain ⟨reg, hb1, hb2⟩ := hbump
      obtain ⟨i1, i2, i3⟩ := bumpTok hinv key n reg hb1
      refine hnext _ w _ ?_ i1 i2 i3
      simp only [RelA, List.append_nil, List.length_nil, Nat.add_zero]
      refine ⟨base, len, cap, rfl, hlen, hcap, ?_, n, reg, by simp, Nat.le_refl _, fun _ => hb2⟩
      rcases hrows with rfl | ⟨b0, o0, hb0, hr0⟩
      · exact .inl rfl
      · rcases okStride_rows (okOwn_stride hs) with rfl | rfl
        · exact .inr ⟨b0, o0, hb0, hr0⟩
        · exact .inl rfl
    · -- in its own room
      cases ow with
      | exact => simp only [OwnOk] at hown; omega
      | tok k m =>
        simp only [appKey] at hkey
        split at hkey
        · rename_i m' hm'
          split at hkey
          · rename_i hmm
            simp at hkey; obtain ⟨rfl, rfl⟩ := hkey
            have := beq_true hmm; subst this
            have hm1 : getK k σ1.toks = some m' := by rw [(h2 k (.inr (by simp))).2.1]; exact hm'
            obtain ⟨hw, reg, e1, e2, e3⟩ := hown
            obtain ⟨reg', e4, e5⟩ := hinv.tok k m' hm1
            rw [e1] at e4; simp at e4; obtain ⟨rfl, rfl⟩ := e4
            simp only [okOwn] at hs
            have := beq_true hs; subst this
            rcases e3 rfl with hc | ⟨b0, lo, hi', o0, rfl, rfl, rfl, rfl, _⟩
            · omega
            obtain ⟨f1, f2, f3⟩ := e5 _ _ _ rfl
            have hmul : len * j.size + news.length ≤ cap * j.size := by
              rw [hnl, ← Nat.add_mul]; exact Nat.mul_le_mul_right _ hroom
            obtain ⟨w', r1, r2, r3, r4, r5⟩ := run_storeCells (P := P) (w := w) b0 news (o0 + len * j.size) 0 w (relL_one n1 n3) (by
              intro q hq
              simp only [Nat.add_zero]
              obtain ⟨_, g2, g3⟩ := f2 (o0 + len * j.size + q) (by omega) (by omega)
              exact ⟨g2, g3⟩)
            simp only [Nat.add_zero] at r3 r5
            rw [hgo _ w' (run_append_room' (w' := w') hdt3 hd1 hd1' if1 n5 (by rw [if2]; exact n4) hroom (by simp only [Addr.add_lit, if2]; exact r1))]
            rw [Oper.upon_value]
            obtain ⟨i1, i2, i3⟩ := fillTok hinv hm1 e1 news (by omega) r2 r3 r4 r5 (by
              intro hn; rw [hn] at hnl
              have hz : rows1.length * j.size = 0 := hnl.symm
              rcases Nat.mul_eq_zero.1 hz with hz | hz
              · exact h0 hz
              · exact if6 hz)
            refine hnext _ w' _ ?_ i1 i2 i3
            simp only [RelA]
            refine ⟨_, _, _, rfl, by simp [hlen], by omega, .inr ⟨b0, o0, rfl, ?_⟩, hw + 1, some (b0, o0 + len * j.size + news.length, o0 + cap * j.size), by simp, Nat.le_refl _, fun _ => .inr ⟨b0, _, _, o0, rfl, rfl, ?_, rfl, by omega⟩⟩
            · refine rows_join (olds := olds) (news := news) (RelL.mono i3.1 _ _ m1) (RelL.mono i3.1 _ _ n1) m2 n2 m3 n3 fun q u hq => ?_
              by_cases hql : q < olds.length
              · rw [List.getElem?_append_left hql] at hq
                rcases hrows with rfl | ⟨b2, o2, hb2, hr2⟩
                · rw [List.length_nil, Nat.zero_mul] at hol; omega
                · simp at hb2; obtain ⟨rfl, rfl⟩ := hb2
                  rw [rowsG_iff] at hr2
                  obtain ⟨vs, v1, v2, v3⟩ := cellsG_vals hr2.1
                  have : vs = olds := by
                    have q1 : (Builtin.firstCells j.size len (.slice (some ⟨b0, o0, none⟩) len cap)).run P w.drew = .ok vs.toArray w.drew := by
                      refine run_firstCells_some w.drew j.size len _ len cap vs ?_ ?_
                      · rw [← (RelL.get v1).1, flatC_length hr2.2, hlen]
                      · intro j v hj; rw [Addr.add_lit, World.cell?_drew]; exact hinv.imm _ _ _ (v2 j v hj)
                    rw [m4] at q1; simp at q1; exact q1.symm
                  subst this
                  exact i3.1 _ _ _ (v2 q u hq)
              · rw [List.getElem?_append_right (by omega)] at hq
                have hqn : q - olds.length < news.length := (List.getElem?_eq_some_iff.1 hq).1
                simp only
                rw [if_pos ⟨trivial, by rw [hlen, ← hol]; omega, by rw [hlen, ← hol]; omega⟩]
                rw [show o0 + q - (o0 + len * j.size) = q - olds.length from by rw [hlen, ← hol]; omega]
                exact hq
            · rw [hnl, Nat.add_mul]; omega
          · simp at hkey
        · simp at hkey
  · have hg : cap < len + rows1.length := by omega
    have hbd : (len + rows1.length) * inf.bytes ≤ 140737488355328 := by rw [if3, hlen]; exact hbound
    rw [hgo _ _ (run_append_grow' hdt3 hd1 hd1' if1 z1 n5 (by rw [if2]; exact n4') (by rw [if2]; exact m4) hg (by omega) hbd)]
    rw [Oper.upon_value]
    have hge := grownCap_ge w (len + rows1.length) cap e
    generalize grownCap w (len + rows1.length) cap e = nc at hge ⊢
    have hus : (olds.toArray ++ news'.toArray ++ Builtin.zeroCells z.cells (nc - (len + rows1.length))).size = nc * j.size := by
      simp only [Array.size_append, List.size_toArray, size_zeroCells, hol, hnl', z3, ← hlen, ← Nat.add_mul]
      congr 1; omega
    have hkle : (len + rows1.length) * j.size ≤ (olds.toArray ++ news'.toArray ++ Builtin.zeroCells z.cells (nc - (len + rows1.length))).size := by rw [hus]; exact Nat.mul_le_mul_right _ hge
    have hkk : key ∉ σ1.used ∨ ∃ n0, getK key σ1.toks = some n0 ∧ n0 < n := by
      cases ow with
      | exact =>
        simp only [appKey] at hkey
        split at hkey
        · rename_i hu
          simp at hkey; obtain ⟨rfl, rfl⟩ := hkey
          exact .inl fun h => not_mem_used hu ((h2 d (.inr (by simp))).2.2.1 h)
        · simp at hkey
      | tok k m =>
        simp only [appKey] at hkey
        split at hkey
        · rename_i m' hm'
          split at hkey
          · rename_i hmm
            simp at hkey; obtain ⟨rfl, rfl⟩ := hkey
            have := beq_true hmm; subst this
            exact .inr ⟨m', by rw [(h2 k (.inr (by simp))).2.1]; exact hm', by omega⟩
          · simp at hkey
        · simp at hkey
    obtain ⟨i1, i2, i3⟩ := newTok hinv (olds.toArray ++ news'.toArray ++ Builtin.zeroCells z.cells (nc - (len + rows1.length))) e ((len + rows1.length) * j.size) hkle key n hkk
      (w.drew.alloc (.cells (olds.toArray ++ news'.toArray ++ Builtin.zeroCells z.cells (nc - (len + rows1.length))) e)) rfl
    refine hnext _ _ _ ?_ i1 i2 i3
    simp only [RelA]
    refine ⟨_, _, _, rfl, by simp [hlen], hge, .inr ⟨w.heap.size, 0, rfl, ?_⟩, n, _, if_pos rfl, Nat.le_refl _, fun _ => .inr ⟨_, _, _, 0, rfl, rfl, by rw [Nat.zero_add], by rw [hus, Nat.zero_add], hge⟩⟩
    refine rows_join (olds := olds) (news := news') (RelL.mono i3.1 _ _ m1) (RelL.mono i3.1 _ _ n1') m2 n2' m3 n3' fun q u hq => ?_
    have hql : q < (olds ++ news').length := (List.getElem?_eq_some_iff.1 hq).1
    have hql' : q < (len + rows1.length) * j.size := by simp only [List.length_append, hol, hnl', ← hlen, ← Nat.add_mul] at hql; exact hql
    simp only
    rw [if_pos ⟨trivial, by omega⟩, Nat.zero_add]
    rw [show olds.toArray ++ news'.toArray = (olds ++ news').toArray from by simp, Array.getElem?_append_left (by simpa using hql)]
    simpa using hq

end

section
variable {P : Program} {X : Ctx} {ops : Array Oper} {o : Oper} {rest : List Oper} {env : Env} {acc : List Fp} {Q : Env → St → List Fp → Prop} {bs : List (Nat × List AV)} {ts : List (Nat × Nat)} {us : List Nat}

theorem AOps.append (hX : CtxOk P X) (kn : List Nat) (hg : aguard ops.toList kn env o = some true) {args : Array Operand} {ats : Array TypeId} (ho : o.op = .call { callee := .builtin .append, args := args, argTypes := ats })
    {xs y : Operand} (hargs : args.toList = [xs, y]) {t t1 : Nat} (hats : ats.toList = [t, t1]) {d : Nat} (hd : o.dst = some d)
    {i j i1 : TI} {e : Nat} (hi : X.ti t = some i) (hk : i.kind = .slice e) (hj : X.ti e = some j) {za : AV} (hz : j.zero = some za) (hi1 : X.ti t1 = some i1) (hk1 : srcKind i1.kind = true)
    {ow : Own} {s : Nat} {rows : List CV} (ha : aeval X env xs = some (.own ow s rows)) {b : AV} (hb : aeval X env y = some b) {s1 : Nat} {rows1 : List CV} (hsrc : srcRows b = some (s1, rows1))
    {sz : Nat} (hsz : j.size = sz) (hs : okOwn s sz rows ow = true) (hs1 : okStride s1 sz rows1 = true) {key n : Nat} (hkey : appKey d us ts ow = some (key, n)) {by_ : Nat} (hbz : j.bytes = by_) (hby : Nat.ble 1 by_ = true) {ts' : List (Nat × Nat)} (hts : setKF key n ts = some ts')
    (hbound : (rows.length + rows1.length) * by_ ≤ 140737488355328)
    (k : AOps P X ops rest ((d, .own (.tok key n) sz (rows ++ rows1)) :: env) ⟨bs, ts', key :: us⟩ (⟨[], [key]⟩ :: acc) Q) : AOps P X ops (o :: rest) env ⟨bs, ts, us⟩ acc Q := by
  subst hsz hbz
  rw [setKF_eq] at hts
  simp at hts; subst hts
  exact AOps.step (guard_in hg) (OpSem.append (σ := ⟨bs, ts, us⟩) hX ho hargs hats hi hk hj hz hi1 hk1 ha hb hsrc hs hs1 hkey hby hbound) (setTok_eff key n) (by rw [hd]; exact k)
end
end Go.Abs

namespace Go.Abs

/-- New names: of boxes the old ones, of tokens a number and the old one (none: what has no spare room). -/
structure Ren where
  bx : Nat → Option Nat
  tk : Nat → Option (Nat × Option Nat)

def Gh.ren (g : Gh) (ρ : Ren) : Gh where
  G := g.G
  box := fun k => match ρ.bx k with
    | some old => g.box old
    | none => none
  tok := fun k => match ρ.tk k with
    | some (m, none) => some (m, none)
    | some (m, some old) => match g.tok old with
      | some (_, reg) => some (m, reg)
      | none => none
    | none => none
  room := fun k => match ρ.bx k with
    | some old => g.room old
    | none => 0

mutual
/-- The first, by the new names, says no more than the second, by the old ones. -/
def Conv (ρ : Ren) (ts : List (Nat × Nat)) : AV → AV → Prop
  | .c v, b => b = .c v ∨ close b = some v
  | .own .exact s rows, b => b = .own .exact s rows
  | .own (.tok k m) s rows, b => ∃ o, ρ.tk k = some (m, o) ∧ (o = none ∧ (∃ q, b = .own .exact q rows ∧ (q = s ∨ rows = [])) ∨ ∃ old n, o = some old ∧ getK old ts = some n ∧ b = .own (.tok old n) s rows)
  | .ptr k off, b => ∃ old, ρ.bx k = some old ∧ b = .ptr old off
  | .bsl k off s n, b => ∃ old, ρ.bx k = some old ∧ b = .bsl old off s n
  | .any, b => b.one = true
  | .agg l, b => ∃ l', b = .agg l' ∧ ConvL ρ ts l l'
  | .tup l, b => ∃ l', b = .tup l' ∧ ConvL ρ ts l l'
def ConvL (ρ : Ren) (ts : List (Nat × Nat)) : List AV → List AV → Prop
  | [], l' => l' = []
  | a :: l, l' => ∃ b r, l' = b :: r ∧ Conv ρ ts a b ∧ ConvL ρ ts l r
end

section
variable {g : Gh} {ρ : Ren} {ts : List (Nat × Nat)}

mutual
theorem conv_ok (hts : ∀ k n, getK k ts = some n → ∃ reg, g.tok k = some (n, reg)) : ∀ {a b : AV} {u : Value}, Conv ρ ts a b → RelA g b u → RelA (g.ren ρ) a u ∧ (b.one = true → a.one = true)
  | .c v, b, u, h, hr => by
    simp only [Conv] at h
    rcases h with rfl | h
    · simp only [RelA] at hr ⊢; exact ⟨hr, fun h => h⟩
    · have := close_ok b v u h hr
      simp only [RelA]; exact ⟨this.1, this.2⟩
  | .own .exact s rows, b, u, h, hr => by
    simp only [Conv] at h; subst h
    simp only [RelA] at hr ⊢; exact ⟨hr, fun h => h⟩
  | .own (.tok k m) s rows, b, u, h, hr => by
    simp only [Conv] at h
    obtain ⟨o, h1, ⟨rfl, q, rfl, hq⟩ | ⟨old, n, rfl, h2, rfl⟩⟩ := h
    · simp only [RelA] at hr ⊢
      obtain ⟨base, len, cap, e1, e2, e3, e4, e5⟩ := hr
      refine ⟨⟨base, len, cap, e1, e2, e3, ?_, m, none, ?_, Nat.le_refl _, fun _ => .inl e5⟩, fun _ => rfl⟩
      · rcases hq with rfl | rfl
        · exact e4
        · exact .inl rfl
      simp only [Gh.ren, h1]
    · simp only [RelA] at hr ⊢
      obtain ⟨base, len, cap, e1, e2, e3, e4, hw, reg, e5, e6, e7⟩ := hr
      obtain ⟨reg', e8⟩ := hts old n h2
      rw [e5] at e8; simp at e8; obtain ⟨rfl, rfl⟩ := e8
      refine ⟨⟨base, len, cap, e1, e2, e3, e4, m, reg, ?_, Nat.le_refl _, fun _ => e7 rfl⟩, fun _ => rfl⟩
      simp only [Gh.ren, h1, e5]
  | .ptr k off, b, u, h, hr => by
    simp only [Conv] at h
    obtain ⟨old, h1, rfl⟩ := h
    simp only [RelA] at hr ⊢
    obtain ⟨b, e1, e2⟩ := hr
    exact ⟨⟨b, by simp only [Gh.ren, h1, e1], e2⟩, fun _ => rfl⟩
  | .bsl k off s n, b, u, h, hr => by
    simp only [Conv] at h
    obtain ⟨old, h1, rfl⟩ := h
    simp only [RelA] at hr ⊢
    obtain ⟨b, cap, o, e1, e2, e3, e4⟩ := hr
    exact ⟨⟨b, cap, o, by simp only [Gh.ren, h1, e1], e2, e3, by simp only [Gh.ren, h1]; exact e4⟩, fun _ => rfl⟩
  | .any, b, u, h, hr => by
    simp only [Conv] at h
    have := one_oneCell h hr
    simp only [RelA]
    refine ⟨⟨fun vs e => ?_, fun vs e => ?_⟩, fun _ => rfl⟩ <;> (subst e; simp [Value.oneCell'] at this)
  | .agg l, b, u, h, hr => by
    simp only [Conv] at h
    obtain ⟨l', rfl, h1⟩ := h
    simp only [RelA] at hr ⊢
    obtain ⟨vs, e1, e2, e3⟩ := hr
    obtain ⟨f1, f2⟩ := convL_ok hts h1 e2
    exact ⟨⟨vs, e1, f1, f2 e3⟩, fun h => by simp [AV.one] at h⟩
  | .tup l, b, u, h, hr => by
    simp only [Conv] at h
    obtain ⟨l', rfl, h1⟩ := h
    simp only [RelA] at hr ⊢
    obtain ⟨vs, e1, e2, e3⟩ := hr
    obtain ⟨f1, f2⟩ := convL_ok hts h1 e2
    refine ⟨⟨vs, e1, f1, ?_⟩, fun h => by simp [AV.one] at h⟩
    rw [(RelAL.get f1).1, ← (RelAL.get e2).1]; exact e3
theorem convL_ok (hts : ∀ k n, getK k ts = some n → ∃ reg, g.tok k = some (n, reg)) : ∀ {l l' : List AV} {us : List Value}, ConvL ρ ts l l' → RelAL g l' us → RelAL (g.ren ρ) l us ∧ (l'.all AV.one = true → l.all AV.one = true)
  | [], l', us, h, hr => by
    simp only [ConvL] at h; subst h
    simp only [RelAL] at hr ⊢; exact ⟨hr, fun h => h⟩
  | a :: l, l', us, h, hr => by
    simp only [ConvL] at h
    obtain ⟨b, r, rfl, h1, h2⟩ := h
    simp only [RelAL] at hr ⊢
    obtain ⟨u, us', rfl, h3, h4⟩ := hr
    obtain ⟨e1, e2⟩ := conv_ok hts h1 h3
    obtain ⟨e3, e4⟩ := convL_ok hts h2 h4
    refine ⟨⟨u, us', rfl, e1, e3⟩, fun h => ?_⟩
    simp only [List.all_cons, Bool.and_eq_true] at h ⊢
    exact ⟨e2 h.1, e4 h.2⟩
end

theorem convL_cells {w : World} (hts : ∀ k n, getK k ts = some n → ∃ reg, g.tok k = some (n, reg)) {b : Nat} : ∀ {l l' : List AV} {o : Nat}, ConvL ρ ts l l' → CellsW w g b o l' → CellsW w (g.ren ρ) b o l
  | [], _, _, _, _ => trivial
  | a :: l, l', o, h, hc => by
    simp only [ConvL] at h
    obtain ⟨x, r, rfl, h1, h2⟩ := h
    obtain ⟨⟨u, c1, c2, c3⟩, c4, c5⟩ := hc
    obtain ⟨e1, e2⟩ := conv_ok hts h1 c2
    exact ⟨⟨u, c1, e1, e2 c3⟩, c4, convL_cells hts h2 c5⟩
end

theorem inv_toks {w : World} {g : Gh} {σ : St} (h : Inv w g σ) : ∀ k n, getK k σ.toks = some n → ∃ reg, g.tok k = some (n, reg) := fun k n e => by
  obtain ⟨reg, e1, _⟩ := h.tok k n e
  exact ⟨reg, e1⟩

/-- What stood stands by the new names. -/
theorem Inv.ren {w : World} {g : Gh} {σ : St} (h : Inv w g σ) (ρ : Ren) (σ' : St)
    (hb : ∀ k cells, getK k σ'.boxes = some cells → ∃ old oc, ρ.bx k = some old ∧ getK old σ.boxes = some oc ∧ ConvL ρ σ.toks cells oc)
    (hbi : ∀ k k' old, ρ.bx k = some old → ρ.bx k' = some old → k = k')
    (ht : ∀ k n, getK k σ'.toks = some n → ∃ o, ρ.tk k = some (n, o) ∧ ∀ old, o = some old → ∃ n', getK old σ.toks = some n')
    (hti : ∀ k k' m m' old, ρ.tk k = some (m, some old) → ρ.tk k' = some (m', some old) → k = k')
    (hu : ∀ k, ρ.bx k ≠ none ∨ ρ.tk k ≠ none → k ∈ σ'.used) :
    Inv w (g.ren ρ) σ' ∧ ((∀ k, 1000000 ≤ k → getK k σ'.boxes ≠ none → ρ.bx k = some k) → Keep w g σ w (g.ren ρ) σ') := by
  have hts := inv_toks h
  have hreg : ∀ k n b lo hi, getK k σ'.toks = some n → (g.ren ρ).tok k = some (n, some (b, lo, hi)) → ∃ old n' m, ρ.tk k = some (m, some old) ∧ getK old σ.toks = some n' ∧ g.tok old = some (n', some (b, lo, hi)) := by
    intro k n b lo hi e e1
    obtain ⟨o, h1, h2⟩ := ht k n e
    cases o with
    | none => simp [Gh.ren, h1] at e1
    | some old =>
      obtain ⟨n', h3⟩ := h2 old rfl
      obtain ⟨reg, h4⟩ := hts old n' h3
      simp [Gh.ren, h1, h4] at e1
      subst e1
      exact ⟨old, n', n, h1, h3, h4⟩
  have hbox : ∀ k b, (g.ren ρ).box k = some b → ∃ old, ρ.bx k = some old ∧ g.box old = some b := by
    intro k b e
    simp only [Gh.ren] at e
    split at e
    · rename_i old ho; exact ⟨old, ho, e⟩
    · simp at e
  refine ⟨⟨h.imm, ?_, ?_, ?_, ?_, ?_, ?_⟩, fun hid' => ⟨rfl, rfl, rfl, Nat.le_refl _, fun _ _ _ => rfl, fun _ _ _ _ => ⟨rfl, rfl⟩, Imm.le.refl _, fun _ _ _ h => .inl h, ?_, ?_, ?_⟩⟩
  · intro k cells e
    obtain ⟨old, oc, h1, h2, h3⟩ := hb k cells e
    obtain ⟨b, h4, h5, h6, h7⟩ := h.box old oc h2
    exact ⟨b, by simp only [Gh.ren, h1, h4], h5, h6, convL_cells hts h3 h7⟩
  · intro k k' cs cs' b e e' e1 e2
    obtain ⟨old, oc, h1, h2, _⟩ := hb k cs e
    obtain ⟨old', oc', h1', h2', _⟩ := hb k' cs' e'
    simp only [Gh.ren, h1, h1'] at e1 e2
    have := h.boxinj old old' oc oc' b h2 h2' e1 e2
    subst this
    exact hbi k k' old h1 h1'
  · intro k n e
    obtain ⟨o, h1, h2⟩ := ht k n e
    cases o with
    | none => exact ⟨none, by simp only [Gh.ren, h1], fun _ _ _ h => by simp at h⟩
    | some old =>
      obtain ⟨n', h3⟩ := h2 old rfl
      obtain ⟨reg, h4, h5⟩ := h.tok old n' h3
      refine ⟨reg, by simp only [Gh.ren, h1, h4], fun b lo hi hr => ?_⟩
      obtain ⟨f1, f2, f3⟩ := h5 b lo hi hr
      refine ⟨f1, f2, fun k' cs e' => ?_⟩
      obtain ⟨old', oc', g1, g2, _⟩ := hb k' cs e'
      simp only [Gh.ren, g1]
      exact f3 old' oc' g2
  · intro k k' n n' b lo hi lo' hi' e e' e1 e2
    obtain ⟨old, m1, q1, h1, h2, h3⟩ := hreg k n b lo hi e e1
    obtain ⟨old', m1', q1', h1', h2', h3'⟩ := hreg k' n' b lo' hi' e' e2
    have := h.tokinj old old' m1 m1' b lo hi lo' hi' h2 h2' h3 h3'
    subst this
    exact hti k k' _ _ old h1 h1'
  · intro k e
    apply hu k
    rcases e with e | e
    · left; intro hn; apply e; simp [Gh.ren, hn]
    · right; intro hn; apply e; simp [Gh.ren, hn]
  · intro k cs b e e1 o
    obtain ⟨old, oc, h1, h2, _⟩ := hb k cs e
    simp only [Gh.ren, h1] at e1 ⊢
    exact h.room old oc b h2 e1 o
  · intro k cs b e e1
    obtain ⟨old, oc, h1, h2, _⟩ := hb k cs e
    simp only [Gh.ren, h1] at e1
    exact .inr ⟨old, oc, h2, e1⟩
  · intro k n b lo hi e e1
    obtain ⟨old, n', m, h1, h2, h3⟩ := hreg k n b lo hi e e1
    exact .inr ⟨old, n', lo, hi, h2, h3, Nat.le_refl _, Nat.le_refl _⟩
  · intro k hk e
    have h1 := hid' k hk e
    cases hc : getK k σ'.boxes with
    | none => exact absurd hc e
    | some cells =>
      obtain ⟨old, oc, h2, h3, _⟩ := hb k cells hc
      rw [h1] at h2; simp at h2; subst h2
      exact ⟨by rw [h3]; simp, by simp [Gh.ren, h1], by simp [Gh.ren, h1]⟩

/-- All different. -/
def distinct : List Nat → Bool
  | [] => true
  | x :: l => match mem x l with
    | true => false
    | false => distinct l

theorem mem_getK {α : Type} {k : Nat} {v : α} : ∀ {l : List (Nat × α)}, getK k l = some v → (k, v) ∈ l
  | [], h => by simp [getK] at h
  | (j, x) :: l, h => by
    rw [getK_cons] at h
    split at h
    · rename_i hk; simp at h; subst hk h; simp
    · exact List.mem_cons_of_mem _ (mem_getK h)

theorem getK_mem {α : Type} {k : Nat} {v : α} : ∀ {l : List (Nat × α)}, distinct (l.map (·.1)) = true → (k, v) ∈ l → getK k l = some v
  | [], _, h => by simp at h
  | (j, x) :: l, hd, h => by
    simp only [List.map_cons, distinct] at hd
    split at hd
    · simp at hd
    · rename_i hm
      rw [getK_cons]
      rcases List.mem_cons.1 h with h1 | h1
      · simp at h1; obtain ⟨rfl, rfl⟩ := h1; simp
      · have : k ≠ j := by
          intro hkj
          exact not_mem_used hm (List.mem_map.2 ⟨(k, v), h1, hkj⟩)
        rw [if_neg this]
        exact getK_mem hd h1

theorem getK_none {α : Type} {k : Nat} : ∀ {l : List (Nat × α)}, k ∉ l.map (·.1) → getK k l = none
  | [], _ => rfl
  | (j, x) :: l, h => by
    simp only [List.map_cons, List.mem_cons, not_or] at h
    rw [getK_cons, if_neg h.1]
    exact getK_none h.2

theorem keys_getK {α : Type} {k : Nat} {l : List (Nat × α)} (h : getK k l ≠ none) : k ∈ l.map (·.1) := by
  by_cases hk : k ∈ l.map (·.1)
  · exact hk
  · exact absurd (getK_none hk) h

theorem distinct_inj {l : List (Nat × Nat)} (h : distinct (l.map (·.2)) = true) {k k' v : Nat} (h1 : (k, v) ∈ l) (h2 : (k', v) ∈ l) : k = k' := by
  induction l with
  | nil => simp at h1
  | cons x l ih =>
    simp only [List.map_cons, distinct] at h
    split at h
    · simp at h
    · rename_i hm
      have hm' := not_mem_used hm
      rcases List.mem_cons.1 h1 with e1 | e1
      · rcases List.mem_cons.1 h2 with e2 | e2
        · rw [← e1] at e2; simp at e2; exact e2.symm
        · exact absurd (List.mem_map.2 ⟨_, e2, by rw [← e1]⟩) hm'
      · rcases List.mem_cons.1 h2 with e2 | e2
        · exact absurd (List.mem_map.2 ⟨_, e1, by rw [← e2]⟩) hm'
        · exact ih h e1 e2

/-- Writes one behind the other. -/
def setAll {α : Type} : List (Nat × α) → List (Nat × α) → List (Nat × α)
  | [], b => b
  | (k, v) :: l, b => setAll l (setK k v b)

def setAllF {α : Type} : List (Nat × α) → List (Nat × α) → Option (List (Nat × α))
  | [], b => some b
  | (k, v) :: l, b => match setKF k v b with
    | some b' => setAllF l b'
    | none => none

theorem setAllF_eq {α : Type} : ∀ (l b : List (Nat × α)), setAllF l b = some (setAll l b)
  | [], b => rfl
  | (k, v) :: l, b => by simp only [setAllF, setAll, setKF_eq, setAllF_eq l]

theorem getK_setAll {α : Type} {k : Nat} : ∀ {l b : List (Nat × α)}, distinct (l.map (·.1)) = true → getK k (setAll l b) = match getK k l with
    | some v => some v
    | none => getK k b
  | [], b, _ => rfl
  | (j, x) :: l, b, hd => by
    simp only [List.map_cons, distinct] at hd
    split at hd
    · simp at hd
    · rename_i hm
      simp only [setAll]
      rw [getK_setAll hd, getK_cons]
      by_cases hk : k = j
      · subst hk
        rw [if_pos rfl, getK_none (not_mem_used hm)]
        simp [getK_setK]
      · rw [if_neg hk, getK_setK, if_neg hk]

theorem setAll_eff (nb : List (Nat × List AV)) (nt : List (Nat × Nat)) (nu : List Nat) (hb : distinct (nb.map (·.1)) = true) (ht : distinct (nt.map (·.1)) = true) :
    EffOk (fun σ => (⟨setAll nb σ.boxes, setAll nt σ.toks, nu ++ σ.used⟩ : St)) ⟨[], nb.map (·.1) ++ (nt.map (·.1) ++ nu)⟩ where
  out := fun σ k hk => by
    simp only [List.mem_append, not_or] at hk
    refine ⟨?_, ?_, ?_⟩
    · simp only [getK_setAll hb, getK_none hk.1]
    · simp only [getK_setAll ht, getK_none hk.2.1]
    · simp [hk.2.2]
  same := fun σ σ1 h k hk => by
    obtain ⟨e1, e2, e3⟩ := h k (.inr hk)
    refine ⟨?_, ?_, ?_⟩
    · simp only [getK_setAll hb, e1]
    · simp only [getK_setAll ht, e2]
    · simp only [List.mem_append, e3]

end Go.Abs

namespace Go.Abs

/-- A closed value, or a slice with the right to append to it. -/
inductive LV where
  | c (v : CV)
  | own (s : Nat) (rows : List CV)
  deriving Inhabited

/-- What is handed over: a value, or a box with what is in it. -/
inductive PA where
  | v (x : LV)
  | box (cells : List LV)
  deriving Inhabited

def LV.av (k m : Nat) : LV → AV
  | .c v => .c v
  | .own s rows => .own (.tok k m) s rows
def LV.tk (k m : Nat) : LV → List (Nat × Nat)
  | .c _ => []
  | .own _ _ => [(k, m)]
def avs (m : Nat) : Nat → List LV → List AV
  | _, [] => []
  | k, x :: l => x.av k m :: avs m (k + 1) l
def tks (m : Nat) : Nat → List LV → List (Nat × Nat)
  | _, [] => []
  | k, x :: l => x.tk k m ++ tks m (k + 1) l
abbrev pb (i : Nat) : Nat := 1000000 + 1000 * i
abbrev rk : Nat := 5000000

def pavs : Nat → List PA → List AV
  | _, [] => []
  | i, .v x :: l => x.av (pb i) 0 :: pavs (i + 1) l
  | i, .box _ :: l => .ptr (pb i) 0 :: pavs (i + 1) l
def pbxs : Nat → List PA → List (Nat × List AV)
  | _, [] => []
  | i, .v _ :: l => pbxs (i + 1) l
  | i, .box cells :: l => (pb i, avs 0 (pb i + 1) cells) :: pbxs (i + 1) l
def ptks : Nat → List PA → List (Nat × Nat)
  | _, [] => []
  | i, .v x :: l => x.tk (pb i) 0 ++ ptks (i + 1) l
  | i, .box cells :: l => tks 0 (pb i + 1) cells ++ ptks (i + 1) l
def stIn (ps : List PA) : St := ⟨pbxs 0 ps, ptks 0 ps, (pbxs 0 ps).map (·.1) ++ (ptks 0 ps).map (·.1)⟩

def obxs : List (Nat × List LV) → List (Nat × List AV)
  | [] => []
  | (i, cells) :: l => (pb i, avs 1 (pb i + 1) cells) :: obxs l
def otks : List (Nat × List LV) → List (Nat × Nat)
  | [] => []
  | (i, cells) :: l => tks 1 (pb i + 1) cells ++ otks l
def stOut (os : List (Nat × List LV)) (rs : List LV) : St := ⟨obxs os, otks os ++ tks 0 rk rs, (obxs os).map (·.1) ++ (otks os ++ tks 0 rk rs).map (·.1)⟩

/-- What a call hands back, the tokens' keys turned by so much. -/
def retAV (s : Nat) : List LV → AV
  | [] => .c .undef
  | [x] => x.av (rk + s) 0
  | l => .tup (avs 0 (rk + s) l)

def RetRel (g : Gh) (rs : List LV) (u : Value) : Prop := RelA g (retAV 0 rs) u

def ER (β : Base) (rs : List LV) (os : List (Nat × List LV)) : Ending → World → Prop := fun e w' =>
  ∃ u g', e = .returned u ∧ RetRel g' rs u ∧ Inv w' g' (stOut os rs) ∧ Keep β.w β.g β.σ w' g' (stOut os rs)

/-- A call gives such results, and leaves such boxes. -/
def ECalls (P : Program) (X : Ctx) (f : FuncId) (ps : List PA) (rs : List LV) (os : List (Nat × List LV)) : Prop :=
  Enters P f ∧ ∀ (g : Gh) (w : World) (vs : List Value), Inv w g (stIn ps) → GlobOk X g.G → RelAL g (pavs 0 ps) vs →
    Calls P f vs.toArray w (ER ⟨w, g, stIn ps⟩ rs os)

/-- To prove such a contract: go through the text. -/
theorem ECalls.of {P : Program} {X : Ctx} {f : FuncId} {fn : Func} {c : Code} {ps : List PA} {rs : List LV} {os : List (Nat × List LV)} (hf : P.funcs[f]? = some fn) (hb : fn.body = some c) (he : Enters P f)
    (hn : ps.length ≤ fn.ntmps) (env : Env) (henv : env = ((pavs 0 ps).zipIdx.map fun (v, i) => (i, v)))
    (h : ∀ β, AK P X f fn.ntmps β (ER β rs os) [.code c] env (stIn ps)) : ECalls P X f ps rs os := by
  refine ⟨he, fun g w vs hinv hglob hrel cs => ?_⟩
  have hlen := (RelAL.get hrel).1
  have hpl : (pavs 0 ps).length = ps.length := by
    have : ∀ (l : List PA) (i : Nat), (pavs i l).length = l.length := by
      intro l
      induction l with
      | nil => intro i; rfl
      | cons p l ih => intro i; cases p <;> simp [pavs, ih]
    exact this ps 0
  have hL : Live X ⟨w, g, stIn ps⟩ fn.ntmps env (stIn ps) g w { tmps := vs.toArray ++ Array.replicate (fn.ntmps - vs.toArray.size) undef, defers := [] } := by
    refine ⟨hinv, hglob, ?_, Keep.refl _ _ _, ?_, rfl⟩
    · intro t a e
      subst henv
      have key : ∀ (l : List AV) (us : List Value) (k : Nat), RelAL g l us → getK t ((l.zipIdx k).map fun (v, i) => (i, v)) = some a → k ≤ t ∧ ∃ u, us[t - k]? = some u ∧ RelA g a u := by
        intro l
        induction l with
        | nil => intro us k _ e; simp [getK] at e
        | cons v l ih =>
          intro us k hr e
          simp only [RelAL] at hr
          obtain ⟨u, us, rfl, h1, h2⟩ := hr
          simp only [List.zipIdx_cons, List.map_cons, getK_cons] at e
          split at e
          · rename_i ht; subst ht; simp at e; subst e
            exact ⟨Nat.le_refl _, u, by simp, h1⟩
          · rename_i ht
            obtain ⟨h3, u', h4, h5⟩ := ih us (k + 1) h2 e
            refine ⟨by omega, u', ?_, h5⟩
            rw [show t - k = (t - (k + 1)) + 1 from by omega]; simpa using h4
      obtain ⟨_, u, h4, h5⟩ := key (pavs 0 ps) vs 0 hrel e
      simp at h4
      have hlt : t < vs.length := (List.getElem?_eq_some_iff.1 h4).1
      have : (vs.toArray ++ Array.replicate (fn.ntmps - vs.toArray.size) undef).getD t undef = u := by
        rw [Array.getD_eq_getD_getElem?, Array.getElem?_append_left (by simpa using hlt)]
        simp [h4]
      rw [this]; exact h5
    · simp; omega
  obtain ⟨e, w', fr, h1, h4, h5, h6⟩ := h ⟨w, g, stIn ps⟩ g w _ cs hL
  have henter : Frame.enter P f vs.toArray .normal =
      (top f).at { tmps := vs.toArray ++ Array.replicate (fn.ntmps - vs.toArray.size) undef, defers := [] } [.code c] := by
    simp [Frame.enter, Frame.at, hf, hb, top]
  exact ⟨_, w', fr, h1, by rw [henter]; exact h4, h5, h6⟩

theorem ECalls.ofL {P : Program} {X : Ctx} {f : FuncId} {fn : Func} {c : Code} {ps : List PA} {rs : List LV} {os : List (Nat × List LV)} (hf : P.funcs[f]? = some fn) (hb : fn.body = some c) (he : Enters P f)
    (hn : ps.length ≤ fn.ntmps) (env : Env) (bs : List (Nat × List AV)) (ts : List (Nat × Nat)) (us : List Nat) (henv : env = ((pavs 0 ps).zipIdx.map fun (v, i) => (i, v))) (hst : stIn ps = ⟨bs, ts, us⟩)
    (h : ∀ β, AK P X f fn.ntmps β (ER β rs os) [.code c] env ⟨bs, ts, us⟩) : ECalls P X f ps rs os :=
  ECalls.of hf hb he hn env henv fun β => by rw [hst]; exact h β

/-- A slice to which one may append, off an abstract value. -/
def ownOf (ts : List (Nat × Nat)) (t : Nat) : AV → Option (List CV)
  | .own .exact s rows => match okStride s t rows with
    | true => some rows
    | false => none
  | .own (.tok k n) s rows => match getK k ts with
    | some m => match Nat.beq m n with
      | true => match Nat.beq s t with
        | true => some rows
        | false => none
      | false => none
    | none => none
  | _ => none

def okLV (ts : List (Nat × Nat)) : LV → AV → Prop
  | .c v, a => close a = some v
  | .own s rows, a => ownOf ts s a = some rows
def okLVs (ts : List (Nat × Nat)) : List LV → List AV → Prop
  | [], l => l = []
  | x :: xs, l => ∃ a r, l = a :: r ∧ okLV ts x a ∧ okLVs ts xs r

/-- The names of tokens: the local one, with its number, and the other one. -/
def tkLV (m k : Nat) : LV → AV → List (Nat × (Nat × Option Nat))
  | .own _ _, .own .exact _ _ => [(k, (m, none))]
  | .own _ _, .own (.tok k' _) _ _ => [(k, (m, some k'))]
  | _, _ => []
def tkLVs (m : Nat) : Nat → List LV → List AV → List (Nat × (Nat × Option Nat))
  | _, [], _ => []
  | _, _ :: _, [] => []
  | k, x :: xs, a :: l => tkLV m k x a ++ tkLVs m (k + 1) xs l

theorem ownOf_cases {ts : List (Nat × Nat)} {a : AV} {s : Nat} {rows : List CV} (h : ownOf ts s a = some rows) : (∃ q, a = .own .exact q rows ∧ (q = s ∨ rows = [])) ∨ ∃ k n, a = .own (.tok k n) s rows ∧ getK k ts = some n := by
  unfold ownOf at h
  split at h
  · split at h
    · rename_i hs
      simp at h; subst h
      exact .inl ⟨_, rfl, okStride_rows hs⟩
    · simp at h
  · split at h
    · rename_i m hm
      split at h
      · rename_i hb
        split at h
        · rename_i hs
          simp at h; subst h
          have := beq_true hb; subst this
          have := beq_true hs; subst this
          exact .inr ⟨_, _, rfl, hm⟩
        · simp at h
      · simp at h
    · simp at h
  · simp at h

theorem conv_LV {ρ : Ren} {ts : List (Nat × Nat)} {m k : Nat} : ∀ {x : LV} {a : AV}, okLV ts x a → (∀ e ∈ tkLV m k x a, ρ.tk e.1 = some e.2) → Conv ρ ts (x.av k m) a
  | .c v, a, h, _ => by simp only [okLV] at h; simp only [LV.av, Conv]; exact .inr h
  | .own s rows, a, h, ht => by
    simp only [okLV] at h
    simp only [LV.av, Conv]
    rcases ownOf_cases h with ⟨q, rfl, hq⟩ | ⟨k', n, rfl, hn⟩
    · exact ⟨none, ht (k, (m, none)) (by simp [tkLV]), .inl ⟨rfl, q, rfl, hq⟩⟩
    · exact ⟨some k', ht (k, (m, some k')) (by simp [tkLV]), .inr ⟨k', n, rfl, hn, rfl⟩⟩

theorem conv_LVs {ρ : Ren} {ts : List (Nat × Nat)} {m : Nat} : ∀ {k : Nat} {xs : List LV} {l : List AV}, okLVs ts xs l → (∀ e ∈ tkLVs m k xs l, ρ.tk e.1 = some e.2) → ConvL ρ ts (avs m k xs) l
  | k, [], l, h, _ => by simp only [okLVs] at h; subst h; simp [avs, ConvL]
  | k, x :: xs, l, h, ht => by
    simp only [okLVs] at h
    obtain ⟨a, r, rfl, h1, h2⟩ := h
    simp only [avs, ConvL]
    simp only [tkLVs, List.mem_append] at ht
    exact ⟨a, r, rfl, conv_LV h1 (fun e he => ht e (.inl he)), conv_LVs h2 (fun e he => ht e (.inr he))⟩

/-- The tokens of values by their local names have each a name. -/
theorem tk_named {ts : List (Nat × Nat)} {m k j n : Nat} : ∀ {x : LV} {a : AV}, okLV ts x a → (j, n) ∈ x.tk k m → n = m ∧ ∃ o, (j, (m, o)) ∈ tkLV m k x a ∧ ∀ old, o = some old → ∃ n', getK old ts = some n'
  | .c v, a, h, hm => by simp [LV.tk] at hm
  | .own s rows, a, h, hm => by
    simp only [okLV] at h
    simp [LV.tk] at hm; obtain ⟨rfl, rfl⟩ := hm
    rcases ownOf_cases h with ⟨q, rfl, hq⟩ | ⟨k', n', rfl, hn⟩
    · exact ⟨rfl, none, by simp [tkLV], fun _ h => by simp at h⟩
    · exact ⟨rfl, some k', by simp [tkLV], fun old h => by simp at h; subst h; exact ⟨n', hn⟩⟩

theorem tks_named {ts : List (Nat × Nat)} {m j n : Nat} : ∀ {k : Nat} {xs : List LV} {l : List AV}, okLVs ts xs l → (j, n) ∈ tks m k xs → n = m ∧ ∃ o, (j, (m, o)) ∈ tkLVs m k xs l ∧ ∀ old, o = some old → ∃ n', getK old ts = some n'
  | k, [], l, h, hm => by simp [tks] at hm
  | k, x :: xs, l, h, hm => by
    simp only [okLVs] at h
    obtain ⟨a, r, rfl, h1, h2⟩ := h
    simp only [tks, List.mem_append] at hm
    simp only [tkLVs, List.mem_append]
    rcases hm with hm | hm
    · obtain ⟨e1, o, e2, e3⟩ := tk_named h1 hm; exact ⟨e1, o, .inl e2, e3⟩
    · obtain ⟨e1, o, e2, e3⟩ := tks_named h2 hm; exact ⟨e1, o, .inr e2, e3⟩

theorem tkLV_key {ts : List (Nat × Nat)} {m k : Nat} : ∀ {x : LV} {a : AV}, okLV ts x a → ∀ e ∈ tkLV m k x a, e.1 ∈ (x.tk k m).map (·.1)
  | .c v, a, h, e, he => by cases a <;> simp [tkLV] at he
  | .own s rows, a, h, e, he => by
    simp only [okLV] at h
    rcases ownOf_cases h with ⟨q, rfl, hq⟩ | ⟨k', n', rfl, hn⟩ <;> simp [tkLV] at he <;> subst he <;> simp [LV.tk]

theorem tkLVs_key {ts : List (Nat × Nat)} {m : Nat} : ∀ {k : Nat} {xs : List LV} {l : List AV}, okLVs ts xs l → ∀ e ∈ tkLVs m k xs l, e.1 ∈ (tks m k xs).map (·.1)
  | k, [], l, h, e, he => by simp only [okLVs] at h; subst h; simp [tkLVs] at he
  | k, x :: xs, l, h, e, he => by
    simp only [okLVs] at h
    obtain ⟨a, r, rfl, h1, h2⟩ := h
    simp only [tkLVs, List.mem_append] at he
    simp only [tks, List.map_append, List.mem_append]
    exact he.imp (tkLV_key h1 e) (tkLVs_key h2 e)

/-- What is handed over fits what stands. -/
def okPAs (bs : List (Nat × List AV)) (ts : List (Nat × Nat)) : List PA → List AV → Prop
  | [], l => l = []
  | .v x :: ps, l => ∃ a r, l = a :: r ∧ okLV ts x a ∧ okPAs bs ts ps r
  | .box cells :: ps, l => ∃ kb oc r, l = .ptr kb 0 :: r ∧ getK kb bs = some oc ∧ okLVs ts cells oc ∧ okPAs bs ts ps r

def bxPA (bs : List (Nat × List AV)) : Nat → List PA → List AV → List (Nat × Nat)
  | _, [], _ => []
  | _, _ :: _, [] => []
  | i, .v _ :: ps, _ :: l => bxPA bs (i + 1) ps l
  | i, .box _ :: ps, .ptr kb _ :: l => (pb i, kb) :: bxPA bs (i + 1) ps l
  | i, .box _ :: ps, _ :: l => bxPA bs (i + 1) ps l
def tkPA (bs : List (Nat × List AV)) : Nat → List PA → List AV → List (Nat × (Nat × Option Nat))
  | _, [], _ => []
  | _, _ :: _, [] => []
  | i, .v x :: ps, a :: l => tkLV 0 (pb i) x a ++ tkPA bs (i + 1) ps l
  | i, .box cells :: ps, .ptr kb _ :: l => (match getK kb bs with
    | some oc => tkLVs 0 (pb i + 1) cells oc
    | none => []) ++ tkPA bs (i + 1) ps l
  | i, .box _ :: ps, _ :: l => tkPA bs (i + 1) ps l

section
variable {bs : List (Nat × List AV)} {ts : List (Nat × Nat)}

theorem okPAs_conv {ρ : Ren} : ∀ {i : Nat} {ps : List PA} {l : List AV}, okPAs bs ts ps l → (∀ e ∈ bxPA bs i ps l, ρ.bx e.1 = some e.2) → (∀ e ∈ tkPA bs i ps l, ρ.tk e.1 = some e.2) → ConvL ρ ts (pavs i ps) l
  | i, [], l, h, _, _ => by simp only [okPAs] at h; subst h; simp [pavs, ConvL]
  | i, .v x :: ps, l, h, h1, h2 => by
    simp only [okPAs] at h
    obtain ⟨a, r, rfl, h3, h4⟩ := h
    simp only [pavs, ConvL]
    simp only [tkPA, List.mem_append] at h2
    exact ⟨a, r, rfl, conv_LV h3 (fun e he => h2 e (.inl he)), okPAs_conv h4 (by simpa only [bxPA] using h1) (fun e he => h2 e (.inr he))⟩
  | i, .box cells :: ps, l, h, h1, h2 => by
    simp only [okPAs] at h
    obtain ⟨kb, oc, r, rfl, h3, h4, h5⟩ := h
    simp only [pavs, ConvL]
    simp only [tkPA, h3, List.mem_append] at h2
    simp only [bxPA, List.mem_cons] at h1
    exact ⟨_, r, rfl, by simp only [Conv]; exact ⟨kb, h1 (pb i, kb) (.inl rfl), rfl⟩, okPAs_conv h5 (fun e he => h1 e (.inr he)) (fun e he => h2 e (.inr he))⟩

theorem okPAs_box : ∀ {i : Nat} {ps : List PA} {l : List AV} {k : Nat} {cells : List AV}, okPAs bs ts ps l → (k, cells) ∈ pbxs i ps →
    ∃ kb oc lvs, (k, kb) ∈ bxPA bs i ps l ∧ getK kb bs = some oc ∧ cells = avs 0 (k + 1) lvs ∧ okLVs ts lvs oc ∧ ∀ e ∈ tkLVs 0 (k + 1) lvs oc, e ∈ tkPA bs i ps l
  | i, [], l, k, cells, h, hm => by simp [pbxs] at hm
  | i, .v x :: ps, l, k, cells, h, hm => by
    simp only [okPAs] at h
    obtain ⟨a, r, rfl, h3, h4⟩ := h
    simp only [pbxs] at hm
    obtain ⟨kb, oc, lvs, e1, e2, e3, e4, e5⟩ := okPAs_box h4 hm
    simp only [bxPA, tkPA, List.mem_append]
    exact ⟨kb, oc, lvs, e1, e2, e3, e4, fun e he => .inr (e5 e he)⟩
  | i, .box cs :: ps, l, k, cells, h, hm => by
    simp only [okPAs] at h
    obtain ⟨kb, oc, r, rfl, h3, h4, h5⟩ := h
    simp only [pbxs, List.mem_cons] at hm
    simp only [bxPA, tkPA, h3, List.mem_append, List.mem_cons]
    rcases hm with hm | hm
    · simp at hm; obtain ⟨rfl, rfl⟩ := hm
      exact ⟨kb, oc, cs, .inl rfl, h3, rfl, h4, fun e he => .inl he⟩
    · obtain ⟨kb', oc', lvs, e1, e2, e3, e4, e5⟩ := okPAs_box h5 hm
      exact ⟨kb', oc', lvs, .inr e1, e2, e3, e4, fun e he => .inr (e5 e he)⟩

theorem okPAs_tok : ∀ {i : Nat} {ps : List PA} {l : List AV} {j n : Nat}, okPAs bs ts ps l → (j, n) ∈ ptks i ps → n = 0 ∧ ∃ o, (j, (0, o)) ∈ tkPA bs i ps l ∧ ∀ old, o = some old → ∃ n', getK old ts = some n'
  | i, [], l, j, n, h, hm => by simp [ptks] at hm
  | i, .v x :: ps, l, j, n, h, hm => by
    simp only [okPAs] at h
    obtain ⟨a, r, rfl, h3, h4⟩ := h
    simp only [ptks, List.mem_append] at hm
    simp only [tkPA, List.mem_append]
    rcases hm with hm | hm
    · obtain ⟨e1, o, e2, e3⟩ := tk_named h3 hm; exact ⟨e1, o, .inl e2, e3⟩
    · obtain ⟨e1, o, e2, e3⟩ := okPAs_tok h4 hm; exact ⟨e1, o, .inr e2, e3⟩
  | i, .box cs :: ps, l, j, n, h, hm => by
    simp only [okPAs] at h
    obtain ⟨kb, oc, r, rfl, h3, h4, h5⟩ := h
    simp only [ptks, List.mem_append] at hm
    simp only [tkPA, h3, List.mem_append]
    rcases hm with hm | hm
    · obtain ⟨e1, o, e2, e3⟩ := tks_named h4 hm; exact ⟨e1, o, .inl e2, e3⟩
    · obtain ⟨e1, o, e2, e3⟩ := okPAs_tok h5 hm; exact ⟨e1, o, .inr e2, e3⟩

theorem okPAs_keys : ∀ {i : Nat} {ps : List PA} {l : List AV}, okPAs bs ts ps l → (∀ e ∈ bxPA bs i ps l, e.1 ∈ (pbxs i ps).map (·.1)) ∧ (∀ e ∈ tkPA bs i ps l, e.1 ∈ (ptks i ps).map (·.1))
  | i, [], l, h => by simp only [okPAs] at h; subst h; simp [bxPA, tkPA]
  | i, .v x :: ps, l, h => by
    simp only [okPAs] at h
    obtain ⟨a, r, rfl, h3, h4⟩ := h
    obtain ⟨i1, i2⟩ := okPAs_keys (i := i + 1) h4
    simp only [bxPA, tkPA, pbxs, ptks, List.mem_append, List.map_append]
    exact ⟨i1, fun e he => he.imp (tkLV_key h3 e) (i2 e)⟩
  | i, .box cs :: ps, l, h => by
    simp only [okPAs] at h
    obtain ⟨kb, oc, r, rfl, h3, h4, h5⟩ := h
    obtain ⟨i1, i2⟩ := okPAs_keys (i := i + 1) h5
    simp only [bxPA, tkPA, pbxs, ptks, h3, List.mem_append, List.map_append, List.mem_cons, List.map_cons]
    refine ⟨fun e he => ?_, fun e he => he.imp (tkLVs_key h4 e) (i2 e)⟩
    rcases he with rfl | he
    · exact .inl rfl
    · exact .inr (i1 e he)

/-- The tokens that are handed over, with their numbers. -/
def consumed : List (Nat × (Nat × Option Nat)) → List Nat
  | [] => []
  | (_, (_, some k)) :: l => k :: consumed l
  | (_, (_, none)) :: l => consumed l

theorem mem_consumed {l : List (Nat × (Nat × Option Nat))} {old : Nat} : old ∈ consumed l ↔ ∃ k m, (k, (m, some old)) ∈ l := by
  induction l with
  | nil => simp [consumed]
  | cons x l ih =>
    obtain ⟨k, m, o⟩ := x
    cases o with
    | none => simp [consumed, ih]
    | some k' =>
      simp only [consumed, List.mem_cons, ih]
      constructor
      · rintro (rfl | ⟨a, b, h⟩)
        · exact ⟨k, m, .inl rfl⟩
        · exact ⟨a, b, .inr h⟩
      · rintro ⟨a, b, h | h⟩
        · simp at h; exact .inl h.2.2
        · exact .inr ⟨a, b, h⟩

theorem consumed_inj {l : List (Nat × (Nat × Option Nat))} (h : distinct (consumed l) = true) {k k' m m' old : Nat} (h1 : (k, (m, some old)) ∈ l) (h2 : (k', (m', some old)) ∈ l) : k = k' := by
  induction l with
  | nil => simp at h1
  | cons x l ih =>
    obtain ⟨q, p, o⟩ := x
    cases o with
    | none =>
      simp only [consumed] at h
      simp at h1 h2
      exact ih h h1 h2
    | some z =>
      simp only [consumed, distinct] at h
      split at h
      · simp at h
      · rename_i hm
        have hm' := not_mem_used hm
        rcases List.mem_cons.1 h1 with e1 | e1
        · rcases List.mem_cons.1 h2 with e2 | e2
          · simp at e1 e2; rw [e1.1, e2.1]
          · simp at e1; rw [e1.2.2] at e2
            exact absurd (mem_consumed.2 ⟨_, _, e2⟩) hm'
        · rcases List.mem_cons.1 h2 with e2 | e2
          · simp at e2; rw [e2.2.2] at e1
            exact absurd (mem_consumed.2 ⟨_, _, e1⟩) hm'
          · exact ih h e1 e2

/-- The names by which the callee knows what it is handed. -/
def renIn (bs : List (Nat × List AV)) (ps : List PA) (l : List AV) : Ren := ⟨fun k => getK k (bxPA bs 0 ps l), fun k => getK k (tkPA bs 0 ps l)⟩

end

structure HandOver (bs : List (Nat × List AV)) (ts : List (Nat × Nat)) (ps : List PA) (l : List AV) : Prop where
  ok : okPAs bs ts ps l
  d1 : distinct ((bxPA bs 0 ps l).map (·.1)) = true
  d2 : distinct ((bxPA bs 0 ps l).map (·.2)) = true
  d3 : distinct ((tkPA bs 0 ps l).map (·.1)) = true
  d4 : distinct (consumed (tkPA bs 0 ps l)) = true

theorem HandOver.inv {σ : St} {ps : List PA} {l : List AV} (h : HandOver σ.boxes σ.toks ps l) {w : World} {g : Gh} (hi : Inv w g σ) : Inv w (g.ren (renIn σ.boxes ps l)) (stIn ps) := by
  refine (hi.ren (renIn σ.boxes ps l) (stIn ps) ?_ ?_ ?_ ?_ ?_).1
  · intro k cells e
    obtain ⟨kb, oc, lvs, e1, e2, e3, e4, e5⟩ := okPAs_box h.ok (mem_getK e)
    refine ⟨kb, oc, getK_mem h.d1 e1, e2, ?_⟩
    subst e3
    exact conv_LVs e4 fun e he => getK_mem h.d3 (e5 e he)
  · intro k k' old e1 e2
    exact distinct_inj h.d2 (mem_getK e1) (mem_getK e2)
  · intro k n e
    obtain ⟨rfl, o, e1, e2⟩ := okPAs_tok h.ok (mem_getK e)
    exact ⟨o, getK_mem h.d3 e1, e2⟩
  · intro k k' m m' old e1 e2
    exact consumed_inj h.d4 (mem_getK e1) (mem_getK e2)
  · intro k e
    obtain ⟨i1, i2⟩ := okPAs_keys (i := 0) h.ok
    simp only [stIn, List.mem_append]
    rcases e with e | e
    · left
      obtain ⟨x, hx, rfl⟩ := List.mem_map.1 (keys_getK e)
      exact i1 x hx
    · right
      obtain ⟨x, hx, rfl⟩ := List.mem_map.1 (keys_getK e)
      exact i2 x hx

theorem HandOver.rel {σ : St} {ps : List PA} {l : List AV} (h : HandOver σ.boxes σ.toks ps l) {w : World} {g : Gh} (hi : Inv w g σ) {vs : List Value} (hv : RelAL g l vs) : RelAL (g.ren (renIn σ.boxes ps l)) (pavs 0 ps) vs :=
  (convL_ok (inv_toks hi) (okPAs_conv (ρ := renIn σ.boxes ps l) h.ok (fun e he => getK_mem h.d1 he) (fun e he => getK_mem h.d3 he)) hv).1

end Go.Abs

namespace Go.Abs

def shiftK (s : Nat) : List (Nat × Nat) → List (Nat × Nat)
  | [] => []
  | (k, n) :: l => (k + s, n) :: shiftK s l

def bumps (ts : List (Nat × Nat)) : List Nat → List (Nat × Nat)
  | [] => []
  | k :: l => match getK k ts with
    | some n => (k, n + 1) :: bumps ts l
    | none => bumps ts l

/-- The values, worked out to their last sign. -/
def avsF (m : Nat) : Nat → List LV → Option (List AV)
  | _, [] => some []
  | k, .c v :: l => match avsF m (k + 1) l with
    | some r => some (.c v :: r)
    | none => none
  | k, .own s rows :: l => match avsF m (k + 1) l with
    | some r => some (.own (.tok k m) s rows :: r)
    | none => none

theorem avsF_eq (m : Nat) : ∀ (k : Nat) (l : List LV), avsF m k l = some (avs m k l)
  | _, [] => rfl
  | k, .c v :: l => by simp only [avsF, avsF_eq m (k + 1) l, avs, LV.av]
  | k, .own s rows :: l => by simp only [avsF, avsF_eq m (k + 1) l, avs, LV.av]

def outB (bx : List (Nat × Nat)) (s : Nat) : List (Nat × List LV) → Option (List (Nat × List AV))
  | [] => some []
  | (i, cells) :: l => match getK (pb i) bx with
    | some kb => match avsF 1 (pb i + 1 + s) cells with
      | some c => match outB bx s l with
        | some r => some ((kb, c) :: r)
        | none => none
      | none => none
    | none => none

def keysOf {α : Type} : List (Nat × α) → List Nat
  | [] => []
  | (k, _) :: l => k :: keysOf l

theorem keysOf_eq {α : Type} : ∀ (l : List (Nat × α)), keysOf l = l.map (·.1)
  | [] => rfl
  | (k, _) :: l => by simp [keysOf, keysOf_eq l]

def allIn (l : List Nat) : List Nat → Bool
  | [] => true
  | x :: r => match mem x l with
    | true => allIn l r
    | false => false

def noneIn (l : List Nat) : List Nat → Bool
  | [] => true
  | x :: r => match mem x l with
    | true => false
    | false => noneIn l r

theorem allIn_mem {l : List Nat} : ∀ {r : List Nat}, allIn l r = true → ∀ x ∈ r, x ∈ l
  | [], _, x, h => by simp at h
  | y :: r, h, x, hx => by
    simp only [allIn] at h
    split at h
    · rename_i hm
      rcases List.mem_cons.1 hx with rfl | hx
      · exact mem_iff.1 hm
      · exact allIn_mem h x hx
    · simp at h

theorem noneIn_mem {l : List Nat} : ∀ {r : List Nat}, noneIn l r = true → ∀ x ∈ r, x ∉ l
  | [], _, x, h => by simp at h
  | y :: r, h, x, hx => by
    simp only [noneIn] at h
    split at h
    · simp at h
    · rename_i hm
      rcases List.mem_cons.1 hx with rfl | hx
      · exact not_mem_used hm
      · exact noneIn_mem h x hx

theorem getK_shift {s : Nat} : ∀ {l : List (Nat × Nat)} {k n : Nat}, getK k (shiftK s l) = some n → ∃ j, k = j + s ∧ getK j l = some n
  | [], k, n, h => by simp [shiftK, getK] at h
  | (j, m) :: l, k, n, h => by
    simp only [shiftK, getK_cons] at h
    split at h
    · rename_i hk; exact ⟨j, hk, by rw [getK_cons, if_pos rfl]; exact h⟩
    · rename_i hk
      obtain ⟨i, rfl, h2⟩ := getK_shift h
      exact ⟨i, rfl, by rw [getK_cons, if_neg (by omega)]; exact h2⟩

theorem getK_shift' {s : Nat} : ∀ {l : List (Nat × Nat)} {j : Nat}, getK (j + s) (shiftK s l) = getK j l
  | [], j => rfl
  | (i, m) :: l, j => by
    simp only [shiftK, getK_cons]
    by_cases h : j = i
    · rw [if_pos (by omega), if_pos h]
    · rw [if_neg (by omega), if_neg h, getK_shift']

theorem getK_append {α : Type} {k : Nat} : ∀ {a b : List (Nat × α)}, getK k (a ++ b) = match getK k a with
    | some v => some v
    | none => getK k b
  | [], b => rfl
  | (j, x) :: a, b => by
    simp only [List.cons_append, getK_cons]
    split
    · rfl
    · exact getK_append

theorem getK_bumps {ts : List (Nat × Nat)} : ∀ {l : List Nat} {k n : Nat}, getK k (bumps ts l) = some n → k ∈ l ∧ ∃ m, getK k ts = some m ∧ n = m + 1
  | [], k, n, h => by simp [bumps, getK] at h
  | j :: l, k, n, h => by
    simp only [bumps] at h
    split at h
    · rename_i m hm
      rw [getK_cons] at h
      split at h
      · rename_i hk; subst hk; simp at h; exact ⟨by simp, m, hm, h.symm⟩
      · obtain ⟨h1, h2⟩ := getK_bumps h; exact ⟨by simp [h1], h2⟩
    · obtain ⟨h1, h2⟩ := getK_bumps h; exact ⟨by simp [h1], h2⟩

theorem bumps_get {ts : List (Nat × Nat)} : ∀ {l : List Nat} {k m : Nat}, k ∈ l → getK k ts = some m → getK k (bumps ts l) = some (m + 1)
  | [], k, m, h, _ => by simp at h
  | j :: l, k, m, h, hm => by
    simp only [bumps]
    by_cases hk : k = j
    · subst hk; rw [hm]; simp [getK_cons]
    · have hk' : k ∈ l := by simpa [hk] using h
      split
      · rw [getK_cons, if_neg hk]; exact bumps_get hk' hm
      · exact bumps_get hk' hm

theorem outB_get {bx : List (Nat × Nat)} {s : Nat} : ∀ {os : List (Nat × List LV)} {nb : List (Nat × List AV)}, outB bx s os = some nb →
    (∀ k v, (k, v) ∈ nb → ∃ i cells, (i, cells) ∈ os ∧ getK (pb i) bx = some k ∧ v = avs 1 (pb i + 1 + s) cells) ∧ (∀ i cells k, (i, cells) ∈ os → getK (pb i) bx = some k → k ∈ nb.map (·.1))
  | [], nb, h => by simp [outB] at h; subst h; simp
  | (i, cells) :: os, nb, h => by
    simp only [outB, avsF_eq] at h
    split at h
    · rename_i kb hkb
      split at h
      · rename_i r hr
        simp at h; subst h
        obtain ⟨h1, h2⟩ := outB_get hr
        constructor
        · intro k v hv
          rcases List.mem_cons.1 hv with hv | hv
          · simp at hv; obtain ⟨rfl, rfl⟩ := hv; exact ⟨i, cells, by simp, hkb, rfl⟩
          · obtain ⟨i', c', e1, e2, e3⟩ := h1 k v hv; exact ⟨i', c', by simp [e1], e2, e3⟩
        · intro i' c' k hm hk
          rcases List.mem_cons.1 hm with hm | hm
          · simp at hm; obtain ⟨rfl, rfl⟩ := hm; rw [hkb] at hk; simp at hk; simp [hk]
          · simp only [List.map_cons, List.mem_cons]; exact .inr (h2 i' c' k hm hk)
      · simp at h
    · simp at h

theorem obxs_mem : ∀ {os : List (Nat × List LV)} {k : Nat} {v : List AV}, (k, v) ∈ obxs os → ∃ i cells, (i, cells) ∈ os ∧ k = pb i ∧ v = avs 1 (pb i + 1) cells
  | [], k, v, h => by simp [obxs] at h
  | (i, cells) :: os, k, v, h => by
    simp only [obxs, List.mem_cons] at h
    rcases h with h | h
    · simp at h; exact ⟨i, cells, by simp, h.1, h.2⟩
    · obtain ⟨i', c', h1, h2, h3⟩ := obxs_mem h; exact ⟨i', c', by simp [h1], h2, h3⟩

theorem mem_obxs : ∀ {os : List (Nat × List LV)} {i : Nat} {cells : List LV}, (i, cells) ∈ os → (pb i, avs 1 (pb i + 1) cells) ∈ obxs os
  | [], i, cells, h => by simp at h
  | (j, c) :: os, i, cells, h => by
    simp only [obxs, List.mem_cons]
    rcases List.mem_cons.1 h with h | h
    · simp at h; obtain ⟨rfl, rfl⟩ := h; exact .inl rfl
    · exact .inr (mem_obxs h)

theorem mem_otks : ∀ {os : List (Nat × List LV)} {i : Nat} {cells : List LV} {e : Nat × Nat}, (i, cells) ∈ os → e ∈ tks 1 (pb i + 1) cells → e ∈ otks os
  | [], i, cells, e, h, _ => by simp at h
  | (j, c) :: os, i, cells, e, h, he => by
    simp only [otks, List.mem_append]
    rcases List.mem_cons.1 h with h | h
    · simp at h; obtain ⟨rfl, rfl⟩ := h; exact .inl he
    · exact .inr (mem_otks h he)

section
variable {g g' : Gh} {s : Nat}

theorem LV.shift (hG : g.G.le g'.G) {m k : Nat} : ∀ {x : LV} {u : Value}, (∀ e ∈ x.tk k m, g'.tok (e.1 + s) = g.tok e.1) → RelA g (x.av k m) u → RelA g' (x.av (k + s) m) u ∧ ((x.av k m).one = true → (x.av (k + s) m).one = true)
  | .c v, u, _, h => by
    simp only [LV.av, RelA] at h ⊢
    exact ⟨Rel.mono hG _ _ h, fun h => h⟩
  | .own q rows, u, ht, h => by
    simp only [LV.av, RelA] at h ⊢
    obtain ⟨base, len, cap, e1, e2, e3, e4, hw, reg, e5, e6⟩ := h
    refine ⟨⟨base, len, cap, e1, e2, e3, e4.mono hG, hw, reg, ?_, e6⟩, fun _ => rfl⟩
    have := ht (k, m) (by simp [LV.tk])
    rw [this]; exact e5

theorem avs_shift (hG : g.G.le g'.G) {m : Nat} : ∀ {k : Nat} {xs : List LV} {us : List Value}, (∀ e ∈ tks m k xs, g'.tok (e.1 + s) = g.tok e.1) → RelAL g (avs m k xs) us → RelAL g' (avs m (k + s) xs) us
  | k, [], us, _, h => by simp only [avs, RelAL] at h ⊢; exact h
  | k, x :: xs, us, ht, h => by
    simp only [avs, RelAL] at h ⊢
    simp only [tks, List.mem_append] at ht
    obtain ⟨u, us', e1, e2, e3⟩ := h
    refine ⟨u, us', e1, (LV.shift hG (fun e he => ht e (.inl he)) e2).1, ?_⟩
    have := avs_shift hG (k := k + 1) (fun e he => ht e (.inr he)) e3
    rwa [show k + 1 + s = k + s + 1 from by omega] at this

theorem cells_shift (hG : g.G.le g'.G) {w : World} {m b : Nat} : ∀ {k : Nat} {xs : List LV} {o : Nat}, (∀ e ∈ tks m k xs, g'.tok (e.1 + s) = g.tok e.1) → CellsW w g b o (avs m k xs) → CellsW w g' b o (avs m (k + s) xs)
  | k, [], o, _, h => trivial
  | k, x :: xs, o, ht, h => by
    simp only [tks, List.mem_append] at ht
    obtain ⟨⟨u, c1, c2, c3⟩, c4, c5⟩ := h
    obtain ⟨e1, e2⟩ := LV.shift (k := k) hG (fun e he => ht e (.inl he)) c2
    have := cells_shift hG (k := k + 1) (fun e he => ht e (.inr he)) c5
    rw [show k + 1 + s = k + s + 1 from by omega] at this
    exact ⟨⟨u, c1, e1, e2 c3⟩, c4, this⟩

theorem avs_length (m : Nat) : ∀ (k : Nat) (xs : List LV), (avs m k xs).length = xs.length
  | _, [] => rfl
  | k, x :: xs => by simp [avs, avs_length m (k + 1) xs]
end

/-- What stands behind a call with boxes. -/
def afterCall (nb : List (Nat × List AV)) (nt : List (Nat × Nat)) (nu : List Nat) (σ : St) : St := ⟨setAll nb σ.boxes, setAll nt σ.toks, nu ++ σ.used⟩

set_option maxHeartbeats 1000000 in
theorem call_back {w w' : World} {g g' : Gh} {σ : St} {ps : List PA} {l : List AV} {os : List (Nat × List LV)} {rs : List LV} (hi : Inv w g σ) (H : HandOver σ.boxes σ.toks ps l)
    (hi' : Inv w' g' (stOut os rs)) (hk : Keep w (g.ren (renIn σ.boxes ps l)) (stIn ps) w' g' (stOut os rs)) (s : Nat) {nb : List (Nat × List AV)} (hnb : outB (bxPA σ.boxes 0 ps l) s os = some nb)
    (hall : ∀ x ∈ (bxPA σ.boxes 0 ps l).map (·.1), x ∈ (obxs os).map (·.1)) {fr : List (Nat × Nat)} (hfr : fr = shiftK s (otks os ++ tks 0 rk rs)) {bu : List (Nat × Nat)} (hbu : bu = bumps σ.toks (consumed (tkPA σ.boxes 0 ps l)))
    (hd0 : distinct ((obxs os).map (·.1)) = true) (hd1 : distinct (nb.map (·.1)) = true) (hd2 : distinct ((fr ++ bu).map (·.1)) = true) (hfu : ∀ x ∈ fr.map (·.1), x ∉ σ.used) (hot : distinct ((otks os ++ tks 0 rk rs).map (·.1)) = true) :
    ∃ g'', Inv w' g'' (afterCall nb (fr ++ bu) (fr.map (·.1)) σ) ∧ Keep w g σ w' g'' (afterCall nb (fr ++ bu) (fr.map (·.1)) σ) ∧ g.le g'' ∧ ∀ u, RelA g' (retAV 0 rs) u → RelA g'' (retAV s rs) u := by
  have hts := inv_toks hi
  let gc := g.ren (renIn σ.boxes ps l)
  let g'' : Gh := ⟨g'.G, g.box, fun k => match getK k fr with
    | some _ => g'.tok (k - s)
    | none => match getK k bu with
      | some n => some (n, none)
      | none => g.tok k, g.room⟩
  have hboxes : ∀ k cs b, getK k (stIn ps).boxes = some cs → gc.box k = some b → ∃ kb oc, (k, kb) ∈ bxPA σ.boxes 0 ps l ∧ getK kb σ.boxes = some oc ∧ g.box kb = some b := by
    intro k cs b e e1
    obtain ⟨kb, oc, lvs, f1, f2, _⟩ := okPAs_box H.ok (mem_getK e)
    refine ⟨kb, oc, f1, f2, ?_⟩
    have : (renIn σ.boxes ps l).bx k = some kb := getK_mem H.d1 f1
    simpa only [gc, Gh.ren, this] using e1
  have htoks : ∀ k n b lo hi, getK k (stIn ps).toks = some n → gc.tok k = some (n, some (b, lo, hi)) → ∃ old n', old ∈ consumed (tkPA σ.boxes 0 ps l) ∧ getK old σ.toks = some n' ∧ g.tok old = some (n', some (b, lo, hi)) := by
    intro k n b lo hi e e1
    obtain ⟨rfl, o, f1, f2⟩ := okPAs_tok H.ok (mem_getK e)
    have h1 : (renIn σ.boxes ps l).tk k = some (0, o) := getK_mem H.d3 f1
    cases o with
    | none => simp [gc, Gh.ren, h1] at e1
    | some old =>
      obtain ⟨n', h3⟩ := f2 old rfl
      obtain ⟨reg, h4⟩ := hts old n' h3
      simp [gc, Gh.ren, h1, h4] at e1
      subst e1
      exact ⟨old, n', mem_consumed.2 ⟨k, 0, f1⟩, h3, h4⟩
  have howned : ∀ b o, Owned gc (stIn ps) b o → Owned g σ b o := by
    rintro b o (⟨k, cs, h1, h2⟩ | ⟨k, n, lo, hi', h1, h2, h3, h4⟩)
    · obtain ⟨kb, oc, _, f2, f3⟩ := hboxes k cs b h1 h2
      exact .inl ⟨kb, oc, f2, f3⟩
    · obtain ⟨old, n', _, f2, f3⟩ := htoks k n b lo hi' h1 h2
      exact .inr ⟨old, n', lo, hi', f2, f3, h3, h4⟩
  -- blocks that are not handed over
  have hfree : ∀ k0 c0 b, getK k0 σ.boxes = some c0 → g.box k0 = some b → k0 ∉ (bxPA σ.boxes 0 ps l).map (·.2) → ∀ o, ¬ Owned gc (stIn ps) b o := by
    rintro k0 c0 b e1 e2 e3 o (⟨k, cs, h1, h2⟩ | ⟨k, n, lo, hi', h1, h2, h3, h4⟩)
    · obtain ⟨kb, oc, f1, f2, f3⟩ := hboxes k cs b h1 h2
      have := hi.boxinj k0 kb c0 oc b e1 f2 e2 f3
      subst this
      exact e3 (List.mem_map.2 ⟨_, f1, rfl⟩)
    · obtain ⟨old, n', _, f2, f3⟩ := htoks k n b lo hi' h1 h2
      obtain ⟨reg, f4, f5⟩ := hi.tok old n' f2
      rw [f3] at f4; simp at f4
      exact (f5 b lo hi' f4.symm).2.2 k0 c0 e1 e2
  have hfreeT : ∀ k0 n0 b lo0 hi0, getK k0 σ.toks = some n0 → g.tok k0 = some (n0, some (b, lo0, hi0)) → k0 ∉ consumed (tkPA σ.boxes 0 ps l) → ∀ o, ¬ Owned gc (stIn ps) b o := by
    rintro k0 n0 b lo0 hi0 e1 e2 e3 o (⟨k, cs, h1, h2⟩ | ⟨k, n, lo, hi', h1, h2, h3, h4⟩)
    · obtain ⟨kb, oc, f1, f2, f3⟩ := hboxes k cs b h1 h2
      obtain ⟨reg, f4, f5⟩ := hi.tok k0 n0 e1
      rw [e2] at f4; simp at f4
      exact (f5 b lo0 hi0 f4.symm).2.2 kb oc f2 f3
    · obtain ⟨old, n', f1, f2, f3⟩ := htoks k n b lo hi' h1 h2
      have := hi.tokinj k0 old n0 n' b lo0 hi0 lo hi' e1 f2 e2 f3
      subst this
      exact e3 f1
  have hsame : ∀ b, b < w.heap.size → (∀ o, ¬ Owned gc (stIn ps) b o) → ∀ o, w'.cell? ⟨b, o, none⟩ = w.cell? ⟨b, o, none⟩ ∧ w'.frozen? ⟨b, o, none⟩ = w.frozen? ⟨b, o, none⟩ := fun b h1 h2 o => hk.kept b o h1 (h2 o)
  have hGnone : ∀ b o, b < w.heap.size → ¬ Owned gc (stIn ps) b o → g.G b o = none → g'.G b o = none := by
    intro b o h1 h2 h3
    cases hg : g'.G b o with
    | none => rfl
    | some v =>
      rcases hk.new b o v hg with h | h | h
      · change g.G b o = some v at h; rw [h3] at h; simp at h
      · omega
      · exact absurd h h2
  have hfrk : ∀ k n, getK k fr = some n → ∃ j, k = j + s ∧ getK j (otks os ++ tks 0 rk rs) = some n ∧ k ∉ σ.used ∧ g''.tok k = g'.tok j := by
    intro k n e
    have hk0 := mem_getK e
    subst hfr
    obtain ⟨j, rfl, h2⟩ := getK_shift e
    exact ⟨j, rfl, h2, hfu _ (List.mem_map.2 ⟨_, hk0, rfl⟩), by simp only [g'', e, Nat.add_sub_cancel]⟩
  have hbuk : ∀ k n, getK k bu = some n → k ∈ consumed (tkPA σ.boxes 0 ps l) ∧ ∃ m, getK k σ.toks = some m ∧ n = m + 1 := by
    intro k n e; subst hbu; exact getK_bumps e
  have hfrs : ∀ e ∈ (otks os ++ tks 0 rk rs), g''.tok (e.1 + s) = g'.tok e.1 := by
    intro e he
    have h1 : getK (e.1 + s) fr = some e.2 := by
      rw [hfr, getK_shift']
      exact getK_mem hot he
    simp only [g'', h1, Nat.add_sub_cancel]
  have hle : g.le g'' := by
    refine ⟨hk.le, fun _ _ h => h, fun _ _ _ => rfl, fun k hw reg e => ?_⟩
    cases h1 : getK k fr with
    | some n =>
      obtain ⟨j, _, _, h2, _⟩ := hfrk k n h1
      exact absurd (hi.used k (.inr (by rw [e]; simp))) h2
    | none =>
      cases h2 : getK k bu with
      | some n =>
        obtain ⟨_, m, h3, rfl⟩ := hbuk k n h2
        obtain ⟨reg', h4⟩ := hts k m h3
        rw [e] at h4; simp at h4
        exact ⟨m + 1, none, by simp only [g'', h1, h2], by omega, by omega⟩
      | none => exact ⟨hw, reg, by simp only [g'', h1, h2]; exact e, Nat.le_refl _, fun _ => rfl⟩
  obtain ⟨ob1, ob2⟩ := outB_get hnb
  -- a box behind the call
  have hbx : ∀ k cs, getK k (setAll nb σ.boxes) = some cs → (∃ oc, getK k σ.boxes = some oc) ∧ ∃ b, g.box k = some b ∧ b < w.heap.size ∧ (∀ o, g'.G b o = none) ∧ CellsW w' g'' b 0 cs ∧ ∀ o, (o < g.room k → ∃ u, w'.cell? ⟨b, o, none⟩ = some u) ∧ w'.frozen? ⟨b, o, none⟩ = false := by
    intro k cs e
    rw [getK_setAll hd1] at e
    split at e
    · rename_i v hv
      simp at e; subst e
      obtain ⟨i, cells, h1, h2, rfl⟩ := ob1 k v (mem_getK hv)
      have hmem := mem_getK h2
      have h3 : getK (pb i) (obxs os) = some (avs 1 (pb i + 1) cells) := getK_mem hd0 (mem_obxs h1)
      have h4 := hk.ids (pb i) (Nat.le_add_right _ _) (by show getK (pb i) (obxs os) ≠ none; rw [h3]; simp)
      cases hc : getK (pb i) (stIn ps).boxes with
      | none => exact absurd hc h4.1
      | some ic =>
        obtain ⟨kb, oc, lvs, f1, f2, _⟩ := okPAs_box H.ok (mem_getK hc)
        have : getK (pb i) (bxPA σ.boxes 0 ps l) = some kb := getK_mem H.d1 f1
        rw [h2] at this; simp at this; subst this
        obtain ⟨b, b1, b2, b3, b4⟩ := hi.box k oc f2
        obtain ⟨b', c1, c2, c3, c4⟩ := hi'.box (pb i) _ h3
        have hgc : gc.box (pb i) = some b := by
          have : (renIn σ.boxes ps l).bx (pb i) = some k := h2
          simp only [gc, Gh.ren, this, b1]
        have hgr : gc.room (pb i) = g.room k := by
          have : (renIn σ.boxes ps l).bx (pb i) = some k := h2
          simp only [gc, Gh.ren, this]
        have hrm := hi'.room (pb i) _ b' h3 c1
        rw [h4.2.2, hgr] at hrm
        rw [h4.2.1, hgc] at c1; simp at c1; subst c1
        refine ⟨⟨oc, f2⟩, b, b1, b2, c3, ?_, hrm⟩
        have := cells_shift (g := g') (g' := g'') (s := s) (Imm.le.refl _) (k := pb i + 1) (fun e he => hfrs e (List.mem_append.2 (.inl (mem_otks h1 he)))) c4
        rwa [show pb i + 1 + s = pb i + 1 + s from rfl] at this
    · rename_i hv
      have hnot : k ∉ (bxPA σ.boxes 0 ps l).map (·.2) := by
        intro hm
        obtain ⟨x, hx, rfl⟩ := List.mem_map.1 hm
        obtain ⟨y, hy, hyx⟩ := List.mem_map.1 (hall x.1 (List.mem_map.2 ⟨x, hx, rfl⟩))
        obtain ⟨i, cells, h1, h2, _⟩ := obxs_mem (k := y.1) (v := y.2) hy
        have h3 : getK (pb i) (bxPA σ.boxes 0 ps l) = some x.2 := by rw [← h2, hyx]; exact getK_mem H.d1 hx
        have h4 := ob2 i cells x.2 h1 h3
        obtain ⟨z, hz, hzx⟩ := List.mem_map.1 h4
        have := getK_mem (k := z.1) (v := z.2) hd1 hz
        rw [hzx, hv] at this; simp at this
      obtain ⟨b, b1, b2, b3, b4⟩ := hi.box k cs e
      have hno := hfree k cs b e b1 hnot
      exact ⟨⟨cs, e⟩, b, b1, b2, fun o => hGnone b o b2 (hno o) (b3 o), (CellsW.of_same (hsame b b2 hno) b4).mono hle, fun o => by
        obtain ⟨q1, q2⟩ := hi.room k cs b e b1 o
        exact ⟨fun ho => (q1 ho).imp fun u hu => (hsame b b2 hno o).1.trans hu, (hsame b b2 hno o).2.trans q2⟩⟩
  -- a token behind the call
  have htk : ∀ k n, getK k (setAll (fr ++ bu) σ.toks) = some n → (∃ j, k = j + s ∧ getK j (otks os ++ tks 0 rk rs) = some n ∧ g''.tok k = g'.tok j ∧ k ∉ σ.used) ∨ g''.tok k = some (n, none) ∨
      (getK k σ.toks = some n ∧ g''.tok k = g.tok k ∧ k ∉ consumed (tkPA σ.boxes 0 ps l)) := by
    intro k n e
    rw [getK_setAll hd2, getK_append] at e
    cases h1 : getK k fr with
    | some m =>
      rw [h1] at e; simp at e; subst e
      obtain ⟨j, rfl, h2, h3, h4⟩ := hfrk k m h1
      exact .inl ⟨j, rfl, h2, h4, h3⟩
    | none =>
      rw [h1] at e; simp only at e
      cases h2 : getK k bu with
      | some m =>
        rw [h2] at e; simp at e; subst e
        right; left; simp only [g'', h1, h2]
      | none =>
        rw [h2] at e; simp only at e
        right; right
        refine ⟨e, by simp only [g'', h1, h2], fun hm => ?_⟩
        rw [hbu, bumps_get hm e] at h2; simp at h2
  have hregion : ∀ j n b lo hi0, getK j (otks os ++ tks 0 rk rs) = some n → g'.tok j = some (n, some (b, lo, hi0)) → w.heap.size ≤ b ∨ ∃ old n', old ∈ consumed (tkPA σ.boxes 0 ps l) ∧ getK old σ.toks = some n' ∧ ∃ lo0 hi1, g.tok old = some (n', some (b, lo0, hi1)) ∧ lo0 ≤ lo ∧ hi0 ≤ hi1 := by
    intro j n b lo hi0 e e1
    rcases hk.toks j n b lo hi0 e e1 with h | ⟨k0, n0, lo0, hi1, h1, h2, h3, h4⟩
    · exact .inl h
    · obtain ⟨old, n', f1, f2, f3⟩ := htoks k0 n0 b lo0 hi1 h1 h2
      exact .inr ⟨old, n', f1, f2, lo0, hi1, f3, h3, h4⟩
  refine ⟨g'', ⟨hi'.imm, ?_, ?_, ?_, ?_, ?_, ?_⟩, ⟨hk.os, hk.tape, hk.output, hk.size, fun b hb hno => hk.block b hb fun o ho => hno o (howned b o ho), fun b o hb hno => hk.kept b o hb fun ho => hno (howned b o ho), hk.le, fun b o v h => (hk.new b o v h).imp id fun h => h.imp id (howned b o), ?_, ?_, ?_⟩, hle, ?_⟩
  · intro k cs e
    obtain ⟨_, b, b1, b2, b3, b4, _⟩ := hbx k cs e
    exact ⟨b, b1, Nat.lt_of_lt_of_le b2 hk.size, b3, b4⟩
  · intro k k' cs cs' b e e' e1 e2
    obtain ⟨⟨oc, h1⟩, _⟩ := hbx k cs e
    obtain ⟨⟨oc', h1'⟩, _⟩ := hbx k' cs' e'
    exact hi.boxinj k k' oc oc' b h1 h1' e1 e2
  · intro k n e
    rcases htk k n e with ⟨j, rfl, h1, h2, _⟩ | h1 | ⟨h1, h2, h3⟩
    · obtain ⟨reg, h3, h4⟩ := hi'.tok j n h1
      refine ⟨reg, h2.trans h3, fun b lo hi0 hr => ?_⟩
      obtain ⟨f1, f2, f3⟩ := h4 b lo hi0 hr
      refine ⟨f1, f2, fun k' cs e' => ?_⟩
      obtain ⟨⟨oc, g1⟩, b', b1, b2, _⟩ := hbx k' cs e'
      show g.box k' ≠ some b
      rw [b1]
      intro hbb
      simp at hbb; subst hbb
      subst hr
      rcases hregion j n b' lo hi0 h1 h3 with h | ⟨old, n', _, q2, lo0, hi1, q3, _, _⟩
      · omega
      · obtain ⟨reg', q4, q5⟩ := hi.tok old n' q2
        rw [q3] at q4; simp at q4
        exact (q5 _ _ _ q4.symm).2.2 k' oc g1 b1
    · exact ⟨none, h1, fun _ _ _ h => by simp at h⟩
    · obtain ⟨reg, h4, h5⟩ := hi.tok k n h1
      refine ⟨reg, h2.trans h4, fun b lo hi0 hr => ?_⟩
      obtain ⟨f1, f2, f3⟩ := h5 b lo hi0 hr
      subst hr
      have hno := hfreeT k n b lo hi0 h1 h4 h3
      refine ⟨Nat.lt_of_lt_of_le f1 hk.size, fun o o1 o2 => ?_, fun k' cs e' => ?_⟩
      · obtain ⟨q1, ⟨u, q2⟩, q3⟩ := f2 o o1 o2
        exact ⟨hGnone b o f1 (hno o) q1, ⟨u, (hsame b f1 hno o).1.trans q2⟩, (hsame b f1 hno o).2.trans q3⟩
      · obtain ⟨⟨oc, g1⟩, _⟩ := hbx k' cs e'
        exact f3 k' oc g1
  · intro k k' n n' b lo hi0 lo' hi1 e e' e1 e2
    rcases htk k n e with ⟨j, rfl, h1, h2, hu1⟩ | h1 | ⟨h1, h2, h3⟩
    · rw [h2] at e1
      rcases htk k' n' e' with ⟨j', rfl, h1', h2', _⟩ | h1' | ⟨h1', h2', h3'⟩
      · rw [h2'] at e2
        have := hi'.tokinj j j' n n' b lo hi0 lo' hi1 h1 h1' e1 e2
        rw [this]
      · rw [h1'] at e2; simp at e2
      · rw [h2'] at e2
        exfalso
        obtain ⟨reg, q1, q2⟩ := hi.tok k' n' h1'
        rw [e2] at q1; simp at q1
        have hlt := (q2 _ _ _ q1.symm).1
        rcases hregion j n b lo hi0 h1 e1 with h | ⟨old, m, r1, r2, lo0, hi2, r3, _, _⟩
        · omega
        · have := hi.tokinj k' old n' m b lo' hi1 lo0 hi2 h1' r2 e2 r3
          subst this; exact h3' r1
    · rw [h1] at e1; simp at e1
    · rw [h2] at e1
      rcases htk k' n' e' with ⟨j', rfl, h1', h2', _⟩ | h1' | ⟨h1', h2', h3'⟩
      · rw [h2'] at e2
        exfalso
        obtain ⟨reg, q1, q2⟩ := hi.tok k n h1
        rw [e1] at q1; simp at q1
        have hlt := (q2 _ _ _ q1.symm).1
        rcases hregion j' n' b lo' hi1 h1' e2 with h | ⟨old, m, r1, r2, lo0, hi2, r3, _, _⟩
        · omega
        · have := hi.tokinj k old n m b lo hi0 lo0 hi2 h1 r2 e1 r3
          subst this; exact h3 r1
      · rw [h1'] at e2; simp at e2
      · rw [h2'] at e2
        exact hi.tokinj k k' n n' b lo hi0 lo' hi1 h1 h1' e1 e2
  · intro k e
    show k ∈ fr.map (·.1) ++ σ.used
    rw [List.mem_append]
    rcases e with e | e
    · exact .inr (hi.used k (.inl e))
    · cases h1 : getK k fr with
      | some m => exact .inl (List.mem_map.2 ⟨_, mem_getK h1, rfl⟩)
      | none =>
        right
        cases h2 : getK k bu with
        | some m =>
          obtain ⟨_, q, h3, _⟩ := hbuk k m h2
          obtain ⟨reg, h4⟩ := hts k q h3
          exact hi.used k (.inr (by rw [h4]; simp))
        | none => apply hi.used k; right; simpa only [g'', h1, h2] using e
  · intro k cs b e e1
    obtain ⟨_, b', b1, _, _, _, hrm⟩ := hbx k cs e
    have e1' : g.box k = some b := e1
    rw [b1] at e1'; cases e1'
    exact hrm
  · intro k cs b e e1
    obtain ⟨⟨oc, h1⟩, _⟩ := hbx k cs e
    exact .inr ⟨k, oc, h1, e1⟩
  · intro k n b lo hi0 e e1
    rcases htk k n e with ⟨j, rfl, h1, h2, _⟩ | h1 | ⟨h1, h2, h3⟩
    · rw [h2] at e1
      rcases hregion j n b lo hi0 h1 e1 with h | ⟨old, m, r1, r2, lo0, hi2, r3, r4, r5⟩
      · exact .inl h
      · exact .inr ⟨old, m, lo0, hi2, r2, r3, r4, r5⟩
    · rw [h1] at e1; simp at e1
    · rw [h2] at e1
      exact .inr ⟨k, n, lo, hi0, h1, e1, Nat.le_refl _, Nat.le_refl _⟩
  · intro k _ e
    cases hc : getK k (setAll nb σ.boxes) with
    | none => exact absurd hc e
    | some cs =>
      obtain ⟨⟨oc, h1⟩, _⟩ := hbx k cs hc
      exact ⟨by rw [h1]; simp, rfl, rfl⟩
  · intro u h
    have hsub : ∀ e ∈ tks 0 rk rs, g''.tok (e.1 + s) = g'.tok e.1 := fun e he => hfrs e (List.mem_append.2 (.inr he))
    match rs, h, hsub with
    | [], h, _ => simp only [retAV, RelA, Rel] at h ⊢; exact h
    | [x], h, hsub =>
      simp only [retAV] at h ⊢
      have := (LV.shift (g := g') (g' := g'') (s := s) (Imm.le.refl _) (k := rk) (fun e he => hsub e (by simp only [tks, List.mem_append]; exact .inl he)) h).1
      exact this
    | x :: y :: r, h, hsub =>
      simp only [retAV, RelA] at h ⊢
      obtain ⟨vs, e1, e2, e3⟩ := h
      refine ⟨vs, e1, avs_shift (g := g') (g' := g'') (Imm.le.refl _) hsub e2, ?_⟩
      rw [avs_length] at e3 ⊢; exact e3

end Go.Abs

namespace Go.Abs

theorem consumed_append : ∀ {a b : List (Nat × (Nat × Option Nat))}, consumed (a ++ b) = consumed a ++ consumed b
  | [], b => rfl
  | (k, m, none) :: a, b => by simp [consumed, consumed_append (a := a)]
  | (k, m, some o) :: a, b => by simp [consumed, consumed_append (a := a)]

section
variable {bs bs1 : List (Nat × List AV)} {ts ts1 : List (Nat × Nat)}

theorem okLV_congr {m k : Nat} : ∀ {x : LV} {a : AV}, okLV ts x a → (∀ j ∈ consumed (tkLV m k x a), getK j ts1 = getK j ts) → okLV ts1 x a
  | .c v, a, h, _ => h
  | .own s rows, a, h, ht => by
    simp only [okLV] at h ⊢
    rcases ownOf_cases h with ⟨q, rfl, hq⟩ | ⟨k', n, rfl, hn⟩
    · exact h
    · have := ht k' (by simp [tkLV, consumed])
      simp only [ownOf, this, hn]
      simp [Nat.beq_refl]

theorem okLVs_congr {m : Nat} : ∀ {k : Nat} {xs : List LV} {l : List AV}, okLVs ts xs l → (∀ j ∈ consumed (tkLVs m k xs l), getK j ts1 = getK j ts) → okLVs ts1 xs l
  | k, [], l, h, _ => h
  | k, x :: xs, l, h, ht => by
    simp only [okLVs] at h ⊢
    obtain ⟨a, r, rfl, h1, h2⟩ := h
    simp only [tkLVs, consumed_append, List.mem_append] at ht
    exact ⟨a, r, rfl, okLV_congr h1 (fun j hj => ht j (.inl hj)), okLVs_congr h2 (fun j hj => ht j (.inr hj))⟩

theorem okPAs_congr : ∀ {i : Nat} {ps : List PA} {l : List AV}, okPAs bs ts ps l → (∀ k ∈ (bxPA bs i ps l).map (·.2), getK k bs1 = getK k bs) → (∀ k ∈ consumed (tkPA bs i ps l), getK k ts1 = getK k ts) →
    okPAs bs1 ts1 ps l ∧ bxPA bs1 i ps l = bxPA bs i ps l ∧ tkPA bs1 i ps l = tkPA bs i ps l
  | i, [], l, h, _, _ => by simp only [okPAs] at h; subst h; exact ⟨by simp [okPAs], rfl, rfl⟩
  | i, .v x :: ps, l, h, h1, h2 => by
    simp only [okPAs] at h
    obtain ⟨a, r, rfl, h3, h4⟩ := h
    simp only [bxPA] at h1
    simp only [tkPA, consumed_append, List.mem_append] at h2
    obtain ⟨i1, i2, i3⟩ := okPAs_congr h4 h1 (fun k hk => h2 k (.inr hk))
    refine ⟨by simp only [okPAs]; exact ⟨a, r, rfl, okLV_congr h3 (fun j hj => h2 j (.inl hj)), i1⟩, ?_, ?_⟩
    · simp only [bxPA, i2]
    · simp only [tkPA, i3]
  | i, .box cells :: ps, l, h, h1, h2 => by
    simp only [okPAs] at h
    obtain ⟨kb, oc, r, rfl, h3, h4, h5⟩ := h
    simp only [bxPA, List.map_cons, List.mem_cons, forall_eq_or_imp] at h1
    simp only [tkPA, h3, consumed_append, List.mem_append] at h2
    obtain ⟨i1, i2, i3⟩ := okPAs_congr h5 h1.2 (fun k hk => h2 k (.inr hk))
    refine ⟨by simp only [okPAs]; exact ⟨kb, oc, r, rfl, h1.1.trans h3, okLVs_congr h4 (fun j hj => h2 j (.inl hj)), i1⟩, ?_, ?_⟩
    · simp only [bxPA, i2]
    · simp only [tkPA, i3, h1.1]
end

theorem bumps_congr {ts ts1 : List (Nat × Nat)} : ∀ {l : List Nat}, (∀ k ∈ l, getK k ts1 = getK k ts) → bumps ts1 l = bumps ts l
  | [], _ => rfl
  | k :: l, h => by
    simp only [bumps, h k (by simp), bumps_congr (l := l) (fun j hj => h j (by simp [hj]))]

/-- What is looked at, one by one. -/
def argsOf (ρ : Operand → Option AV) : List Operand → Option (List AV)
  | [] => some []
  | x :: l => match ρ x with
    | some a => match argsOf ρ l with
      | some r => some (a :: r)
      | none => none
    | none => none

theorem argsOf_congr {ρ ρ1 : Operand → Option AV} : ∀ (l : List Operand), (∀ x ∈ l, ρ1 x = ρ x) → argsOf ρ1 l = argsOf ρ l
  | [], _ => rfl
  | x :: l, h => by simp only [argsOf, h x (by simp), argsOf_congr l (fun y hy => h y (by simp [hy]))]

theorem argsOf_ok {g : Gh} {ρ : Operand → Option AV} {ev : Operand → Value} (hρ : ∀ x v, ρ x = some v → RelA g v (ev x)) : ∀ {l : List Operand} {r : List AV}, argsOf ρ l = some r → RelAL g r (l.map ev)
  | [], r, h => by simp [argsOf] at h; subst h; simp [RelAL]
  | x :: l, r, h => by
    simp only [argsOf] at h
    split at h
    · rename_i a ha
      split at h
      · rename_i r' hr'
        simp at h; subst h
        simp only [List.map_cons, RelAL]
        exact ⟨_, _, rfl, hρ x a ha, argsOf_ok hρ hr'⟩
      · simp at h
    · simp at h

theorem EffOk.more {eff : St → St} {W : List Nat} (h : EffOk eff ⟨[], W⟩) (R : List Nat) : EffOk eff ⟨R, W⟩ :=
  ⟨fun σ k hk => h.out σ k hk, fun σ σ1 ha k hk => h.same σ σ1 (fun j hj => ha j (hj.elim (fun x => by simp at x) .inr)) k hk⟩

/-- All that is asked of the names in a call. -/
structure CallOk (bs : List (Nat × List AV)) (ts : List (Nat × Nat)) (us : List Nat) (ps : List PA) (l : List AV) (rs : List LV) (os : List (Nat × List LV)) (s : Nat) (nb : List (Nat × List AV)) (fr bu : List (Nat × Nat)) : Prop where
  H : HandOver bs ts ps l
  hnb : outB (bxPA bs 0 ps l) s os = some nb
  hall : ∀ x ∈ (bxPA bs 0 ps l).map (·.1), x ∈ (obxs os).map (·.1)
  hfr : fr = shiftK s (otks os ++ tks 0 rk rs)
  hbu : bu = bumps ts (consumed (tkPA bs 0 ps l))
  hd0 : distinct ((obxs os).map (·.1)) = true
  hd1 : distinct (nb.map (·.1)) = true
  hd2 : distinct ((fr ++ bu).map (·.1)) = true
  hfu : ∀ x ∈ fr.map (·.1), x ∉ us
  hot : distinct ((otks os ++ tks 0 rk rs).map (·.1)) = true

theorem CallOk.congr {bs bs1 : List (Nat × List AV)} {ts ts1 : List (Nat × Nat)} {us us1 : List Nat} {ps : List PA} {l : List AV} {rs : List LV} {os : List (Nat × List LV)} {s : Nat} {nb : List (Nat × List AV)} {fr bu : List (Nat × Nat)}
    (h : CallOk bs ts us ps l rs os s nb fr bu) (h1 : ∀ k ∈ (bxPA bs 0 ps l).map (·.2), getK k bs1 = getK k bs) (h2 : ∀ k ∈ consumed (tkPA bs 0 ps l), getK k ts1 = getK k ts) (h3 : ∀ k ∈ fr.map (·.1), k ∈ us1 ↔ k ∈ us) :
    CallOk bs1 ts1 us1 ps l rs os s nb fr bu := by
  obtain ⟨i1, i2, i3⟩ := okPAs_congr h.H.ok h1 h2
  exact ⟨⟨i1, by rw [i2]; exact h.H.d1, by rw [i2]; exact h.H.d2, by rw [i3]; exact h.H.d3, by rw [i3]; exact h.H.d4⟩, by rw [i2]; exact h.hnb, by rw [i2]; exact h.hall, h.hfr, by rw [i3, bumps_congr h2]; exact h.hbu,
    h.hd0, h.hd1, h.hd2, fun x hx hu => h.hfu x hx ((h3 x hx).1 hu), h.hot⟩

section
variable {P : Program} {X : Ctx}

theorem OpSem.calle_core {o : Oper} {env : Env} {σ : St} {f : FuncId} {args : List Operand} (hopd : ∀ x ∈ args, x ∈ o.op.operands.toList) {l0 : List AV} (hl : argsOf (aeval X env) args = some l0) {l : List AV} {ps : List PA} {rs : List LV} {os : List (Nat × List LV)}
    (hq : ECalls P X f ps rs os) {s : Nat} {nb : List (Nat × List AV)} {fr bu : List (Nat × Nat)} (C : CallOk σ.boxes σ.toks σ.used ps l rs os s nb fr bu)
    (henter : ∀ (g : Gh) (w : World) (a : Act) (env1 : Env), (∀ x ∈ o.op.operands.toList, aeval X env1 x = aeval X env x) → EnvOk g env1 a.tmps → GlobOk X g.G → ∃ vs : List Value, RelAL g l vs ∧ (execOp a.eval o).run P w = .ok (.enter f vs.toArray) w) :
    OpSem P X o env σ (retAV s rs) (afterCall nb (fr ++ bu) (fr.map (·.1))) ⟨(bxPA σ.boxes 0 ps l).map (·.2) ++ consumed (tkPA σ.boxes 0 ps l), nb.map (·.1) ++ ((fr ++ bu).map (·.1) ++ fr.map (·.1))⟩ := by
  intro env1 σ1 w g a next Q h1 h2 hinv hglob henv hnext
  have C1 := C.congr (bs1 := σ1.boxes) (ts1 := σ1.toks) (us1 := σ1.used) (fun k hk => (h2 k (.inl (List.mem_append.2 (.inl hk)))).1) (fun k hk => (h2 k (.inl (List.mem_append.2 (.inr hk)))).2.1)
    (fun k hk => (h2 k (.inr (by simp only [List.mem_append]; exact .inr (.inr hk)))).2.2)
  obtain ⟨vs, hv, hrun⟩ := henter g w a env1 h1 henv hglob
  have hin := C1.H.inv hinv
  have hrel := C1.H.rel hinv hv
  unfold Oper.wp
  rw [hrun, Oper.upon_enter]
  refine (hq.2 _ w vs hin hglob hrel).mono ?_
  rintro e w' ⟨u, g', rfl, h3, h4, h5⟩
  obtain ⟨g'', i1, i2, i3, i4⟩ := call_back hinv C1.H h4 h5 s C1.hnb C1.hall C1.hfr C1.hbu C1.hd0 C1.hd1 C1.hd2 C1.hfu C1.hot
  exact hnext u w' g'' (i4 u h3) i1 i2 i3

theorem OpSem.calle {o : Oper} {env : Env} {σ : St} {f : FuncId} {args : Array Operand} {ats : Array TypeId} (ho : o.op = .call { callee := .value (.func f), args := args, argTypes := ats })
    {l : List AV} (hl : argsOf (aeval X env) args.toList = some l) {ps : List PA} {rs : List LV} {os : List (Nat × List LV)}
    (hq : ECalls P X f ps rs os) {s : Nat} {nb : List (Nat × List AV)} {fr bu : List (Nat × Nat)} (C : CallOk σ.boxes σ.toks σ.used ps l rs os s nb fr bu) :
    OpSem P X o env σ (retAV s rs) (afterCall nb (fr ++ bu) (fr.map (·.1))) ⟨(bxPA σ.boxes 0 ps l).map (·.2) ++ consumed (tkPA σ.boxes 0 ps l), nb.map (·.1) ++ ((fr ++ bu).map (·.1) ++ fr.map (·.1))⟩ := by
  have hopd : ∀ x ∈ args.toList, x ∈ o.op.operands.toList := by
    intro x hx
    rw [ho]; simp only [Op.operands, Call.operands, Array.toList_append, List.mem_append]; exact .inr hx
  refine OpSem.calle_core hopd hl hq C ?_
  intro g w a env1 h1 henv hglob
  have ha' : argsOf (aeval X env1) args.toList = some l := by
    rw [argsOf_congr _ (fun x hx => h1 x (hopd x hx))]; exact hl
  refine ⟨args.toList.map a.eval, argsOf_ok (fun x v hx => aeval_ok henv hglob hx) ha', ?_⟩
  rw [show (args.toList.map a.eval).toArray = args.map a.eval from by rw [← Array.toList_map]]
  obtain ⟨dst, op, type, pos, after, guard⟩ := o
  simp only at ho; subst ho
  simp [execOp, resolve, Deferred.ofValue, invoke, Act.eval, hq.1 _ w]

def cavs : List CV → List AV
  | [] => []
  | v :: l => .c v :: cavs l

/-- Lists worked out to their last sign. -/
def forceN : List Nat → Option (List Nat)
  | [] => some []
  | x :: l => match forceN l with
    | some r => some (x :: r)
    | none => none
def forceP {α : Type} : List (Nat × α) → Option (List (Nat × α))
  | [] => some []
  | (k, n) :: l => match forceP l with
    | some r => some ((k, n) :: r)
    | none => none

theorem forceN_eq : ∀ {l r : List Nat}, forceN l = some r → r = l
  | [], r, h => by simp [forceN] at h; exact h
  | x :: l, r, h => by
    simp only [forceN] at h
    split at h
    · rename_i r' hr; simp at h; rw [← h, forceN_eq hr]
    · simp at h
theorem forceP_eq {α : Type} : ∀ {l r : List (Nat × α)}, forceP l = some r → r = l
  | [], r, h => by simp [forceP] at h; exact h
  | (k, n) :: l, r, h => by
    simp only [forceP] at h
    split at h
    · rename_i r' hr; simp at h; rw [← h, forceP_eq hr]
    · simp at h

def both (a b : Bool) : Bool := match a with
  | true => b
  | false => false
theorem both_eq {a b : Bool} (h : both a b = true) : a = true ∧ b = true := by cases a <;> simp_all [both]

/-- What is asked of the names in a call, worked out. -/
def callCheck (us : List Nat) (bx : List (Nat × Nat)) (tk : List (Nat × (Nat × Option Nat))) (ob : List (Nat × List AV)) (nb : List (Nat × List AV)) (fr bu ot : List (Nat × Nat)) : Bool :=
  both (distinct (keysOf bx)) (both (distinct (bx.map (·.2))) (both (distinct (keysOf tk)) (both (distinct (consumed tk)) (both (allIn (keysOf ob) (keysOf bx)) (both (distinct (keysOf ob))
    (both (distinct (keysOf nb)) (both (distinct (keysOf (fr ++ bu))) (both (noneIn us (keysOf fr)) (distinct (keysOf ot))))))))))

theorem callOk_of {bs : List (Nat × List AV)} {ts : List (Nat × Nat)} {us : List Nat} {ps : List PA} {l : List AV} {rs : List LV} {os : List (Nat × List LV)} {s : Nat} {nb : List (Nat × List AV)} {fr bu : List (Nat × Nat)}
    (hok : okPAs bs ts ps l) {bx : List (Nat × Nat)} (hbx : forceP (bxPA bs 0 ps l) = some bx) {tk : List (Nat × (Nat × Option Nat))} (htk : forceP (tkPA bs 0 ps l) = some tk) (hnb : outB bx s os = some nb)
    (hfr : forceP (shiftK s (otks os ++ tks 0 rk rs)) = some fr) (hbu : forceP (bumps ts (consumed tk)) = some bu) (hc : callCheck us bx tk (obxs os) nb fr bu (otks os ++ tks 0 rk rs) = true) : CallOk bs ts us ps l rs os s nb fr bu := by
  have h1 := forceP_eq hbx; have h2 := forceP_eq htk; have h3 := forceP_eq hfr; have h4 := forceP_eq hbu
  subst h1 h2 h3 h4
  unfold callCheck at hc
  obtain ⟨c1, hc⟩ := both_eq hc
  obtain ⟨c2, hc⟩ := both_eq hc
  obtain ⟨c3, hc⟩ := both_eq hc
  obtain ⟨c4, hc⟩ := both_eq hc
  obtain ⟨c5, hc⟩ := both_eq hc
  obtain ⟨c6, hc⟩ := both_eq hc
  obtain ⟨c7, hc⟩ := both_eq hc
  obtain ⟨c8, hc⟩ := both_eq hc
  obtain ⟨c9, c10⟩ := both_eq hc
  simp only [keysOf_eq] at c1 c2 c3 c4 c5 c6 c7 c8 c9 c10
  exact ⟨⟨hok, c1, c2, c3, c4⟩, hnb, fun x hx => allIn_mem c5 x hx, rfl, rfl, c6, c7, c8, fun x hx => noneIn_mem c9 x hx, c10⟩

/-- The environment behind a call. -/
def putR (d s : Nat) (rs : List LV) (env : Env) : Option Env := match rs with
  | [] => some ((d, .c .undef) :: env)
  | [.c v] => some ((d, .c v) :: env)
  | [.own q rows] => some ((d, .own (.tok (rk + s) 0) q rows) :: env)
  | rs => match avsF 0 (rk + s) rs with
    | some l => some ((d, .tup l) :: env)
    | none => none

theorem putR_ok {d s : Nat} {rs : List LV} {env env' : Env} (h : putR d s rs env = some env') : env' = (d, retAV s rs) :: env := by
  match rs, h with
  | [], h => simp [putR] at h; subst h; rfl
  | [.c v], h => simp [putR] at h; subst h; rfl
  | [.own q rows], h => simp [putR] at h; subst h; rfl
  | x :: y :: r, h => simp [putR, avsF_eq] at h; subst h; rfl

end

section
variable {P : Program} {X : Ctx} {ops : Array Oper} {o : Oper} {rest : List Oper} {env : Env} {acc : List Fp} {Q : Env → St → List Fp → Prop} {bs : List (Nat × List AV)} {ts : List (Nat × Nat)} {us : List Nat}

theorem AOps.calle (kn : List Nat) (hg : aguard ops.toList kn env o = some true) {f : FuncId} {args : Array Operand} {ats : Array TypeId} (ho : o.op = .call { callee := .value (.func f), args := args, argTypes := ats })
    {ps : List PA} {rs : List LV} {os : List (Nat × List LV)} (hq : ECalls P X f ps rs os) {l : List AV} (hl : argsOf (aeval X env) args.toList = some l) (hok : okPAs bs ts ps l) {d : Nat} (hd : o.dst = some d)
    {nb : List (Nat × List AV)} {fr bu nt : List (Nat × Nat)} {bx : List (Nat × Nat)} (hbx : forceP (bxPA bs 0 ps l) = some bx) {tk : List (Nat × (Nat × Option Nat))} (htk : forceP (tkPA bs 0 ps l) = some tk) (hnb : outB bx (10000000 * (d + 1)) os = some nb)
    (hfr : forceP (shiftK (10000000 * (d + 1)) (otks os ++ tks 0 rk rs)) = some fr) (hbu : forceP (bumps ts (consumed tk)) = some bu) (hc : callCheck us bx tk (obxs os) nb fr bu (otks os ++ tks 0 rk rs) = true)
    {bs' : List (Nat × List AV)} (hbs : setAllF nb bs = some bs') (hnt : forceP (fr ++ bu) = some nt) {ts' : List (Nat × Nat)} (hts : setAllF nt ts = some ts') {us' : List Nat} (hus : forceN (keysOf fr ++ us) = some us')
    {Rl Wl : List Nat} (hR : forceN (bx.map (·.2) ++ consumed tk) = some Rl) (hW : forceN (keysOf nb ++ (keysOf nt ++ keysOf fr)) = some Wl) {env' : Env} (he : putR d (10000000 * (d + 1)) rs env = some env')
    (k : AOps P X ops rest env' ⟨bs', ts', us'⟩ (⟨Rl, Wl⟩ :: acc) Q) : AOps P X ops (o :: rest) env ⟨bs, ts, us⟩ acc Q := by
  have C := callOk_of hok hbx htk hnb hfr hbu hc
  have r2 := putR_ok he
  have hs := OpSem.calle (σ := ⟨bs, ts, us⟩) ho hl hq C
  have e1 := forceP_eq hnt; have e2 := forceN_eq hus; have e3 := forceN_eq hR; have e4 := forceN_eq hW
  rw [setAllF_eq] at hbs hts
  simp at hbs hts
  have hE : EffOk (afterCall nb (fr ++ bu) (fr.map (·.1))) ⟨(bxPA bs 0 ps l).map (·.2) ++ consumed (tkPA bs 0 ps l), nb.map (·.1) ++ ((fr ++ bu).map (·.1) ++ fr.map (·.1))⟩ := (setAll_eff nb (fr ++ bu) (fr.map fun (x : Nat × Nat) => x.1) C.hd1 C.hd2).more _
  refine AOps.step (guard_in hg) hs hE ?_
  rw [hd]
  show AOps P X ops rest ((d, _) :: env) _ _ Q
  rw [← r2]
  simp only [afterCall]
  rw [e1] at hts e4
  rw [hbs, hts, ← keysOf_eq fr, ← e2]
  have h1 := forceP_eq hbx; have h2 := forceP_eq htk
  rw [← h1, ← h2, ← e3, ← keysOf_eq nb, ← keysOf_eq (fr ++ bu), ← e4]
  exact k

end
end Go.Abs

namespace Go.Abs

/-- The values off what stands, of the shapes that are told. -/
def mkLV (ts : List (Nat × Nat)) : LV → AV → Option LV
  | .c _, a => match close a with
    | some v => some (.c v)
    | none => none
  | .own s _, a => match ownOf ts s a with
    | some rows => some (.own s rows)
    | none => none
def mkLVs (ts : List (Nat × Nat)) : List LV → List AV → Option (List LV)
  | [], [] => some []
  | x :: xs, a :: l => match mkLV ts x a with
    | some y => match mkLVs ts xs l with
      | some r => some (y :: r)
      | none => none
    | none => none
  | _, _ => none
/-- The boxes that were handed over, of the shapes that are told. -/
def mkOuts (bs : List (Nat × List AV)) (ts : List (Nat × Nat)) : List (Nat × List LV) → Option (List (Nat × List LV))
  | [] => some []
  | (i, cells) :: l => match getK (pb i) bs with
    | some oc => match mkLVs ts cells oc with
      | some y => match mkOuts bs ts l with
        | some r => some ((i, y) :: r)
        | none => none
      | none => none
    | none => none

def tkOuts (bs : List (Nat × List AV)) : List (Nat × List LV) → List (Nat × (Nat × Option Nat))
  | [] => []
  | (i, cells) :: l => (match getK (pb i) bs with
    | some oc => tkLVs 1 (pb i + 1) cells oc
    | none => []) ++ tkOuts bs l
def bxOuts : List (Nat × List LV) → List (Nat × Nat)
  | [] => []
  | (i, _) :: l => (pb i, pb i) :: bxOuts l

theorem mkLV_ok {ts : List (Nat × Nat)} : ∀ {x : LV} {a : AV} {y : LV}, mkLV ts x a = some y → okLV ts y a
  | .c _, a, y, h => by
    simp only [mkLV] at h
    split at h
    · rename_i v hv; simp at h; subst h; exact hv
    · simp at h
  | .own _ _, a, y, h => by
    simp only [mkLV] at h
    split at h
    · rename_i rows hv; simp at h; subst h; exact hv
    · simp at h

theorem mkLVs_ok {ts : List (Nat × Nat)} : ∀ {xs : List LV} {l : List AV} {ys : List LV}, mkLVs ts xs l = some ys → okLVs ts ys l
  | [], [], ys, h => by simp [mkLVs] at h; subst h; simp [okLVs]
  | [], _ :: _, ys, h => by simp [mkLVs] at h
  | _ :: _, [], ys, h => by simp [mkLVs] at h
  | x :: xs, a :: l, ys, h => by
    simp only [mkLVs] at h
    split at h
    · rename_i y hy
      split at h
      · rename_i r hr
        simp at h; subst h
        simp only [okLVs]
        exact ⟨a, l, rfl, mkLV_ok hy, mkLVs_ok hr⟩
      · simp at h
    · simp at h

/-- Each box stands under its key, as told. -/
def okOuts (bs : List (Nat × List AV)) (ts : List (Nat × Nat)) : List (Nat × List LV) → Prop
  | [] => True
  | (i, cells) :: l => (∃ oc, getK (pb i) bs = some oc ∧ okLVs ts cells oc) ∧ okOuts bs ts l

theorem mkOuts_ok {bs : List (Nat × List AV)} {ts : List (Nat × Nat)} : ∀ {os os' : List (Nat × List LV)}, mkOuts bs ts os = some os' → okOuts bs ts os'
  | [], os', h => by simp [mkOuts] at h; subst h; trivial
  | (i, cells) :: l, os', h => by
    simp only [mkOuts] at h
    split at h
    · rename_i oc hoc
      split at h
      · rename_i y hy
        split at h
        · rename_i r hr
          simp at h; subst h
          exact ⟨⟨oc, hoc, mkLVs_ok hy⟩, mkOuts_ok hr⟩
        · simp at h
      · simp at h
    · simp at h

theorem okOuts_mem {bs : List (Nat × List AV)} {ts : List (Nat × Nat)} : ∀ {os : List (Nat × List LV)}, okOuts bs ts os → ∀ i cells, (i, cells) ∈ os → ∃ oc, getK (pb i) bs = some oc ∧ okLVs ts cells oc ∧ (∀ e ∈ tkLVs 1 (pb i + 1) cells oc, e ∈ tkOuts bs os) ∧ (pb i, pb i) ∈ bxOuts os
  | [], _, i, cells, h => by simp at h
  | (j, c) :: l, ⟨⟨oc, h1, h2⟩, h3⟩, i, cells, h => by
    rcases List.mem_cons.1 h with h | h
    · simp at h; obtain ⟨rfl, rfl⟩ := h
      exact ⟨oc, h1, h2, fun e he => by simp only [tkOuts, h1, List.mem_append]; exact .inl he, by simp [bxOuts]⟩
    · obtain ⟨oc', f1, f2, f3, f4⟩ := okOuts_mem h3 i cells h
      exact ⟨oc', f1, f2, fun e he => by simp only [tkOuts, List.mem_append]; exact .inr (f3 e he), by simp [bxOuts, f4]⟩

theorem otks_named {bs : List (Nat × List AV)} {ts : List (Nat × Nat)} {j n : Nat} : ∀ {os : List (Nat × List LV)}, okOuts bs ts os → (j, n) ∈ otks os → ∃ o, (j, (n, o)) ∈ tkOuts bs os ∧ ∀ old, o = some old → ∃ n', getK old ts = some n'
  | [], _, h => by simp [otks] at h
  | (i, c) :: l, ⟨⟨oc, h1, h2⟩, h3⟩, h => by
    simp only [otks, List.mem_append] at h
    simp only [tkOuts, h1, List.mem_append]
    rcases h with h | h
    · obtain ⟨rfl, o, e2, e3⟩ := tks_named h2 h; exact ⟨o, .inl e2, e3⟩
    · obtain ⟨o, e2, e3⟩ := otks_named h3 h; exact ⟨o, .inr e2, e3⟩

theorem tkOuts_key {bs : List (Nat × List AV)} {ts : List (Nat × Nat)} : ∀ {os : List (Nat × List LV)}, okOuts bs ts os → ∀ e ∈ tkOuts bs os, e.1 ∈ (otks os).map (·.1)
  | [], _, e, h => by simp [tkOuts] at h
  | (i, c) :: l, ⟨⟨oc, h1, h2⟩, h3⟩, e, h => by
    simp only [tkOuts, h1, List.mem_append] at h
    simp only [otks, List.map_append, List.mem_append]
    exact h.imp (tkLVs_key h2 e) (tkOuts_key h3 e)

theorem bxOuts_mem : ∀ {os : List (Nat × List LV)} {k v : Nat}, (k, v) ∈ bxOuts os → v = k ∧ k ∈ (obxs os).map (·.1)
  | [], k, v, h => by simp [bxOuts] at h
  | (i, c) :: l, k, v, h => by
    simp only [bxOuts, List.mem_cons] at h
    simp only [obxs, List.map_cons, List.mem_cons]
    rcases h with h | h
    · simp at h; obtain ⟨rfl, rfl⟩ := h; exact ⟨rfl, .inl rfl⟩
    · obtain ⟨e1, e2⟩ := bxOuts_mem h; exact ⟨e1, .inr e2⟩

section
variable {P : Program} {X : Ctx} {f : FuncId} {n : Nat} {β : Base} {R : Ending → World → Prop} {K : List Item} {env : Env}

theorem ares_results (hX : CtxOk P X) {fn : Func} {σ : St} {g : Gh} {w : World} {a : Act} (hL : Live X β n env σ g w a) {l : List AV} (h : ares X σ.boxes env fn.results.toList = some l) :
    ∃ u, (results fn a.tmps).run P w = .ok u w ∧ match l with | [] => u = undef | [x] => RelA g x u | l => RelA g (.tup l) u := by
  match l, h with
  | [], h =>
    obtain ⟨vs, e1, e2⟩ := ares_ok hX hL h
    simp only [RelAL] at e2; subst e2
    refine ⟨.tuple #[], ?_, rfl⟩
    have : (fn.results.mapM (resOf a.tmps)).run P w = .ok #[] w := by
      rw [Array.mapM_eq_mapM_toList]
      simp only [Sem.run_map, e1, Result.andThen_ok]
    rw [results_eq, Sem.run_bind, this]
    simp
  | [x], h => exact aresult_ok hX hL (r := x) (by unfold aresult; rw [h])
  | x :: y :: r, h => exact aresult_ok hX hL (r := .tup (x :: y :: r)) (by unfold aresult; rw [h])

/-- What is asked of the names at an ending, worked out. -/
def leaveCheck (bx : List (Nat × Nat)) (tk : List (Nat × (Nat × Option Nat))) : Bool :=
  both (distinct (keysOf bx)) (both (distinct (bx.map (·.2))) (both (distinct (keysOf tk)) (distinct (consumed tk))))

theorem leave_inv {σ : St} {g : Gh} {w : World} (hi : Inv w g σ) {rs : List LV} {os : List (Nat × List LV)} {l : List AV} (hr : okLVs σ.toks rs l) (ho : okOuts σ.boxes σ.toks os)
    (hc : leaveCheck (bxOuts os) (tkOuts σ.boxes os ++ tkLVs 0 rk rs l) = true) (hd : distinct (keysOf (obxs os)) = true) :
    let ρ : Ren := ⟨fun k => getK k (bxOuts os), fun k => getK k (tkOuts σ.boxes os ++ tkLVs 0 rk rs l)⟩
    Inv w (g.ren ρ) (stOut os rs) ∧ Keep w g σ w (g.ren ρ) (stOut os rs) ∧ ConvL ρ σ.toks (avs 0 rk rs) l := by
  intro ρ
  unfold leaveCheck at hc
  obtain ⟨c1, hc⟩ := both_eq hc
  obtain ⟨c2, hc⟩ := both_eq hc
  obtain ⟨c3, c4⟩ := both_eq hc
  rw [keysOf_eq] at c1 c3 hd
  have hcv : ConvL ρ σ.toks (avs 0 rk rs) l := conv_LVs hr fun e he => getK_mem c3 (List.mem_append.2 (.inr he))
  obtain ⟨h1, h2⟩ := hi.ren ρ (stOut os rs) (by
      intro k cells e
      obtain ⟨i, lvs, m1, rfl, rfl⟩ := obxs_mem (mem_getK e)
      obtain ⟨oc, f1, f2, f3, f4⟩ := okOuts_mem ho i lvs m1
      exact ⟨pb i, oc, getK_mem c1 f4, f1, conv_LVs f2 fun e he => getK_mem c3 (List.mem_append.2 (.inl (f3 e he)))⟩) (by
      intro k k' old e1 e2
      exact distinct_inj c2 (mem_getK e1) (mem_getK e2)) (by
      intro k m e
      have hm := mem_getK e
      simp only [stOut] at hm
      rcases List.mem_append.1 hm with hm | hm
      · obtain ⟨o, e1, e2⟩ := otks_named ho hm
        exact ⟨o, getK_mem c3 (List.mem_append.2 (.inl e1)), e2⟩
      · obtain ⟨rfl, o, e1, e2⟩ := tks_named hr hm
        exact ⟨o, getK_mem c3 (List.mem_append.2 (.inr e1)), e2⟩) (by
      intro k k' m m' old e1 e2
      exact consumed_inj c4 (mem_getK e1) (mem_getK e2)) (by
      intro k e
      simp only [stOut, List.mem_append, List.map_append]
      rcases e with e | e
      · left
        obtain ⟨x, hx, rfl⟩ := List.mem_map.1 (keys_getK e)
        exact (bxOuts_mem (k := x.1) (v := x.2) hx).2
      · right
        obtain ⟨x, hx, rfl⟩ := List.mem_map.1 (keys_getK e)
        rcases List.mem_append.1 hx with hx | hx
        · exact .inl (tkOuts_key ho x hx)
        · exact .inr (tkLVs_key hr x hx))
  refine ⟨h1, h2 ?_, hcv⟩
  intro k _ e
  cases hk : getK k (stOut os rs).boxes with
  | none => exact absurd hk e
  | some cells =>
    obtain ⟨i, lvs, m1, rfl, rfl⟩ := obxs_mem (mem_getK hk)
    obtain ⟨oc, f1, f2, f3, f4⟩ := okOuts_mem ho i lvs m1
    exact getK_mem c1 f4

/-- Leaving with boxes. -/
theorem AK.retE (hX : CtxOk P X) {fn : Func} (hf : P.funcs[f]? = some fn) {bs : List (Nat × List AV)} {ts : List (Nat × Nat)} {us : List Nat} {rs rs' : List LV} {os os' : List (Nat × List LV)} {l : List AV} (hr : ares X bs env fn.results.toList = some l)
    (h1 : mkLVs ts rs l = some rs') (h2 : mkOuts bs ts os = some os') (hc : both (leaveCheck (bxOuts os') (tkOuts bs os' ++ tkLVs 0 rk rs' l)) (distinct (keysOf (obxs os'))) = true)
    (e1 : rs' = rs) (e2 : os' = os) : AK P X f n β (ER β rs os) (.code .ret :: K) env ⟨bs, ts, us⟩ := by
  subst e1 e2
  intro g w a cs hL
  obtain ⟨u, h3, h4⟩ := ares_results hX hL hr
  obtain ⟨c1, c2⟩ := both_eq hc
  have hok := mkLVs_ok h1
  obtain ⟨i1, i2, i3⟩ := leave_inv hL.inv hok (mkOuts_ok h2) c1 c2
  refine ⟨.returned u, w, _, ⟨u, _, rfl, ?_, i1, hL.frame.trans i2⟩, .one step_ret, rfl, rfl, hL.defers, rfl, fn, hf, h3⟩
  have hts := inv_toks hL.inv
  show RelA _ _ _
  match rs', hok, i3 with
  | [], hok, i3 =>
    simp only [okLVs] at hok; subst hok
    simp only [retAV, RelA, Rel]; exact h4
  | [x], hok, i3 =>
    simp only [okLVs] at hok
    obtain ⟨y, r, rfl, _, rfl⟩ := hok
    simp only [avs, ConvL] at i3
    obtain ⟨b, r', h5, h6, _⟩ := i3
    simp at h5; obtain ⟨rfl, _⟩ := h5
    simp only [retAV]
    exact (conv_ok hts h6 h4).1
  | x :: x' :: r, hok, i3 =>
    simp only [okLVs] at hok
    obtain ⟨y, q, rfl, _, y', q', rfl, _, _⟩ := hok
    simp only [retAV]
    refine (conv_ok hts (b := .tup (y :: y' :: q')) ?_ h4).1
    simp only [Conv]
    exact ⟨_, rfl, i3⟩

def ConvE (ρ : Ren) (ts : List (Nat × Nat)) (env : Env) : Env → Prop
  | [] => True
  | (t, a) :: l => (∃ b, getK t env = some b ∧ Conv ρ ts a b) ∧ ConvE ρ ts env l
def ConvB (ρ : Ren) (ts : List (Nat × Nat)) (bs : List (Nat × List AV)) : List (Nat × List AV) → Prop
  | [] => True
  | (k, cells) :: l => (∃ old oc, ρ.bx k = some old ∧ getK old bs = some oc ∧ ConvL ρ ts cells oc) ∧ ConvB ρ ts bs l

theorem convE_get {ρ : Ren} {ts : List (Nat × Nat)} {env : Env} : ∀ {l : Env}, ConvE ρ ts env l → ∀ t a, getK t l = some a → ∃ b, getK t env = some b ∧ Conv ρ ts a b
  | [], _, t, a, e => by simp [getK] at e
  | (j, x) :: l, h, t, a, e => by
    rw [getK_cons] at e
    split at e
    · rename_i ht; simp at e; subst ht e; exact h.1
    · exact convE_get h.2 t a e
theorem convB_get {ρ : Ren} {ts : List (Nat × Nat)} {bs : List (Nat × List AV)} : ∀ {l : List (Nat × List AV)}, ConvB ρ ts bs l → ∀ k c, getK k l = some c → ∃ old oc, ρ.bx k = some old ∧ getK old bs = some oc ∧ ConvL ρ ts c oc
  | [], _, t, a, e => by simp [getK] at e
  | (j, x) :: l, h, t, a, e => by
    rw [getK_cons] at e
    split at e
    · rename_i ht; simp at e; subst ht e; exact h.1
    · exact convB_get h.2 t a e

/-- The tokens by the new names: each is named, with its number, by one that stands or by none. -/
def tkFit (ts : List (Nat × Nat)) (tk : List (Nat × (Nat × Option Nat))) : List (Nat × Nat) → Bool
  | [] => true
  | (k, n) :: l => match getK k tk with
    | some (m, none) => both (Nat.beq m n) (tkFit ts tk l)
    | some (m, some old) => match getK old ts with
      | some _ => both (Nat.beq m n) (tkFit ts tk l)
      | none => false
    | none => false

theorem tkFit_get {ts : List (Nat × Nat)} {tk : List (Nat × (Nat × Option Nat))} : ∀ {l : List (Nat × Nat)}, tkFit ts tk l = true → ∀ k n, getK k l = some n → ∃ o, getK k tk = some (n, o) ∧ ∀ old, o = some old → ∃ n', getK old ts = some n'
  | [], _, k, n, e => by simp [getK] at e
  | (j, m) :: l, h, k, n, e => by
    simp only [tkFit] at h
    rw [getK_cons] at e
    split at h
    · rename_i m' hm
      obtain ⟨b1, b2⟩ := both_eq h
      split at e
      · rename_i hk; simp at e; subst hk e
        have := beq_true b1; subst this
        exact ⟨none, hm, fun _ h => by simp at h⟩
      · exact tkFit_get b2 k n e
    · rename_i m' old hm
      split at h
      · rename_i z hz
        obtain ⟨b1, b2⟩ := both_eq h
        split at e
        · rename_i hk; simp at e; subst hk e
          have := beq_true b1; subst this
          exact ⟨some old, hm, fun o h => by simp at h; subst h; exact ⟨z, hz⟩⟩
        · exact tkFit_get b2 k n e
      · simp at h
    · simp at h

/-- Boxes that were handed over keep their keys. -/
def idFit : List (Nat × Nat) → Bool
  | [] => true
  | (k, v) :: l => match Nat.blt k 1000000 with
    | true => idFit l
    | false => both (Nat.beq v k) (idFit l)
theorem idFit_get : ∀ {l : List (Nat × Nat)}, idFit l = true → ∀ k v, 1000000 ≤ k → getK k l = some v → v = k
  | [], _, k, v, _, e => by simp [getK] at e
  | (j, x) :: l, h, k, v, hk, e => by
    simp only [idFit] at h
    rw [getK_cons] at e
    split at h
    · rename_i hb
      have : j < 1000000 := by simpa [Nat.blt_eq] using hb
      rw [if_neg (by omega)] at e
      exact idFit_get h k v hk e
    · obtain ⟨b1, b2⟩ := both_eq h
      split at e
      · rename_i hkj; simp at e; subst hkj e; exact beq_true b1
      · exact idFit_get b2 k v hk e

def renCheck (bx : List (Nat × Nat)) (tk : List (Nat × (Nat × Option Nat))) (ts ts' : List (Nat × Nat)) (us' : List Nat) : Bool :=
  both (distinct (bx.map (·.2))) (both (distinct (consumed tk)) (both (tkFit ts tk ts') (both (idFit bx) (both (allIn us' (keysOf bx)) (allIn us' (keysOf tk))))))

/-- Go on with a part of what is known, by new names: bx: new and old keys of boxes; tk: new keys of tokens, their numbers, and the old keys (none: a slice without spare room). -/
theorem AK.ren {bs : List (Nat × List AV)} {ts : List (Nat × Nat)} {us : List Nat} (bx : List (Nat × Nat)) (tk : List (Nat × (Nat × Option Nat))) {env' : Env} {bs' : List (Nat × List AV)} {ts' : List (Nat × Nat)} {us' : List Nat}
    (he : ConvE ⟨fun k => getK k bx, fun k => getK k tk⟩ ts env env') (hb : ConvB ⟨fun k => getK k bx, fun k => getK k tk⟩ ts bs bs') (hc : renCheck bx tk ts ts' us' = true)
    (h : AK P X f n β R K env' ⟨bs', ts', us'⟩) : AK P X f n β R K env ⟨bs, ts, us⟩ := by
  unfold renCheck at hc
  obtain ⟨c1, hc⟩ := both_eq hc
  obtain ⟨c2, hc⟩ := both_eq hc
  obtain ⟨c3, hc⟩ := both_eq hc
  obtain ⟨c4, hc⟩ := both_eq hc
  obtain ⟨c5, c6⟩ := both_eq hc
  rw [keysOf_eq] at c5 c6
  intro g w a cs hL
  obtain ⟨h1, h2⟩ := hL.inv.ren ⟨fun k => getK k bx, fun k => getK k tk⟩ ⟨bs', ts', us'⟩ (fun k cells e => convB_get hb k cells e) (fun k k' old e1 e2 => distinct_inj c1 (mem_getK e1) (mem_getK e2))
    (fun k m e => tkFit_get c3 k m e) (fun k k' m m' old e1 e2 => consumed_inj c2 (mem_getK e1) (mem_getK e2)) (fun k e => by
      rcases e with e | e
      · exact allIn_mem c5 k (keys_getK e)
      · exact allIn_mem c6 k (keys_getK e))
  refine h _ w a cs ⟨h1, hL.glob, ?_, hL.frame.trans (h2 ?_), hL.size, hL.defers⟩
  · intro t x e
    obtain ⟨b, e1, e2⟩ := convE_get he t x e
    exact (conv_ok (inv_toks hL.inv) e2 (hL.env t b e1)).1
  · intro k hk e
    cases hc : getK k bs' with
    | none => exact absurd hc e
    | some c =>
      obtain ⟨old, oc, q1, q2, _⟩ := convB_get hb k c hc
      have := idFit_get c4 k old hk q1
      subst this; exact q1
end
end Go.Abs

namespace Go.Abs

section
variable {P : Program} {X : Ctx} {f : FuncId} {n : Nat} {β : Base} {R : Ending → World → Prop} {K : List Item} {env : Env} {σ : St}

theorem AK.condTe {c : Operand} {x y : Code} {b : Bool} (hc : aeval X env c = some (.c (.bool b))) (hb : b = true) (h : AK P X f n β R (.code x :: K) env σ) :
    AK P X f n β R (.code (.cond c x y) :: K) env σ := by subst hb; exact AK.condT hc h
theorem AK.condFe {c : Operand} {x y : Code} {b : Bool} (hc : aeval X env c = some (.c (.bool b))) (hb : b = false) (h : AK P X f n β R (.code y :: K) env σ) :
    AK P X f n β R (.code (.cond c x y) :: K) env σ := by subst hb; exact AK.condF hc h
end

abbrev byteRows (l : List UInt8) : List CV := l.map fun b => .int .u8 b.toNat

/-- The byte that is left of a number. -/
def byteOf (z : Int) : UInt8 := UInt8.ofNat (z % 256).toNat
section
variable {P : Program} {X : Ctx}

/-- An operation that only looks, told by its run. -/
theorem OpSem.val {o : Oper} {env : Env} {σ : St} {v : AV} (h : ∀ (env1 : Env) (w : World) (g : Gh) (a : Act), (∀ x ∈ o.op.operands.toList, aeval X env1 x = aeval X env x) → (∀ b o v, g.G b o = some v → w.cell? ⟨b, o, none⟩ = some v) →
    GlobOk X g.G → EnvOk g env1 a.tmps → ∃ u, (execOp a.eval o).run P w = .ok (.value u) w ∧ RelA g v u) : OpSem P X o env σ v (fun σ => σ) ⟨[], []⟩ := by
  intro env1 σ1 w g a next Q h1 h2 hinv hglob henv hnext
  obtain ⟨u, r1, r2⟩ := h env1 w g a h1 hinv.imm hglob henv
  unfold Oper.wp
  rw [r1, Oper.upon_value]
  exact hnext u w g r2 hinv (Keep.refl _ _ _) (Gh.le.refl _)

def arrFs (es e : Nat) : Nat → Nat → List (Nat × Nat)
  | _, 0 => []
  | k, n + 1 => (k * es, e) :: arrFs es e (k + 1) n
theorem arrFs_get {es e : Nat} : ∀ {n k i off ft : Nat}, nth (arrFs es e k n) i = some (off, ft) → off = (k + i) * es ∧ ft = e
  | 0, k, i, off, ft, h => by simp [arrFs, nth] at h
  | n + 1, k, 0, off, ft, h => by simp [arrFs, nth] at h; exact ⟨by simp [h.1], h.2.symm⟩
  | n + 1, k, i + 1, off, ft, h => by
    simp only [arrFs, nth] at h
    obtain ⟨h1, h2⟩ := arrFs_get h
    exact ⟨by rw [h1]; congr 1; omega, h2⟩

/-- An array that is written out, as a value. -/
theorem OpSem.buildArr (hX : CtxOk P X) {o : Oper} {env : Env} {σ : St} {t : TypeId} {parts : Array (Nat × Operand)} (ho : o.op = .build t parts) {i j : TI} {n e : Nat} (hi : X.ti t = some i) (hk : i.kind = .arr n e) (hj : X.ti e = some j)
    {z r : List AV} (hz : i.zero = some (.agg z)) (h : afill X (aeval X env) (arrFs j.size e 0 n) parts.toList z = some r) : OpSem P X o env σ (.agg r) (fun σ => σ) ⟨[], []⟩ := by
  refine OpSem.val fun env1 w g act h1 himm hglob henv => ?_
  have h' : afill X (aeval X env1) (arrFs j.size e 0 n) parts.toList z = some r := by
    rw [afill_congr _ _ _ (fun p hp => h1 p.2 (by rw [ho]; simp only [Op.operands, List.mem_map]; exact ⟨p, hp, rfl⟩))]; exact h
  obtain ⟨d, hd1, hd2, _⟩ := hX.run_underlying (w := w) hi
  rw [hk] at hd2; simp only [KindOk] at hd2; subst hd2
  obtain ⟨zv, z1, z2, z3⟩ := hX.run_zeroValue (w := w) hi hz
  have z4 := z2 g
  simp only [RelA] at z4
  obtain ⟨zs, rfl, z5, z6⟩ := z4
  obtain ⟨us, f1, f2, f3⟩ := afill_ok hX (ρ := aeval X env1) (ev := act.eval) (fun x v hx => aeval_ok henv hglob hx) (fun (m : Nat) => some (m * j.size, j.size)) (by
    intro m off ft j' e1 e2
    obtain ⟨rfl, rfl⟩ := arrFs_get e1
    rw [hj] at e2; simp at e2; subst e2
    simp) (vs := zs.toArray) h' (by simpa using z5) z6
  refine ⟨.agg us, ?_, by simp only [RelA]; exact ⟨us.toList, by simp, f2, f3⟩⟩
  obtain ⟨dst, op, type, pos, after, guard⟩ := o
  simp only at ho; subst ho
  have hb : (Instr.build t (parts.map fun (i, x) => (i, act.eval x))).run P w = .ok (.agg us) w := by
    simp only [Instr.build, Sem.run_bind, z1, Result.andThen_ok, hd1, Value.cells, hX.run_sizeOf hj]
    simp only [Array.toList_map]
    rw [f1]; rfl
  simp only [execOp, Sem.run_bind]
  have : (Array.map (fun x => (x.fst, act.eval x.snd)) parts) = parts.map fun (i, x) => (i, act.eval x) := rfl
  simp only [this, hb, Result.andThen_ok, Sem.run_pure]

/-- A part of an array that is a value. -/
theorem OpSem.indexArr (hX : CtxOk P X) {o : Oper} {env : Env} {σ : St} {t : TypeId} {x ix : Operand} (ho : o.op = .index t x ix) {i j : TI} {n e : Nat} (hi : X.ti t = some i) (hk : i.kind = .arr n e) (hj : X.ti e = some j)
    {cs rest : List AV} (hx : aeval X env x = some (.agg cs)) {ia : AV} (hz : aeval X env ix = some ia) {m : Nat} (hm : asNat ia = some m) (hmn : Nat.blt m n = true) (hd : dropN (m * j.size) cs = some rest) {v : AV} (hv : aload j rest = some v) :
    OpSem P X o env σ v (fun σ => σ) ⟨[], []⟩ := by
  refine OpSem.val fun env1 w g act h1 himm hglob henv => ?_
  have hx' : aeval X env1 x = some (.agg cs) := by rw [h1 x (by rw [ho]; simp [Op.operands])]; exact hx
  have hz' : aeval X env1 ix = some ia := by rw [h1 ix (by rw [ho]; simp [Op.operands])]; exact hz
  have rx := aeval_ok (a := act) henv hglob hx'
  have rz := aeval_ok (a := act) henv hglob hz'
  simp only [RelA, Rel] at rx
  obtain ⟨vs, ex, r1, r2⟩ := rx
  obtain ⟨k, rz⟩ := asNat_val hm rz
  obtain ⟨d, hd1, hd2, _⟩ := hX.run_underlying (w := w) hi
  rw [hk] at hd2; simp only [KindOk] at hd2; subst hd2
  obtain ⟨u, u1, u2⟩ := run_part (P := P) (w := w) (vs := vs.toArray) hX hj (.inl ⟨cs, rest, by simpa using r1, r2, hd, hv⟩)
  refine ⟨u, ?_, u2⟩
  have hlt : m < n := by simpa [Nat.blt_eq] using hmn
  obtain ⟨dst, op, type, pos, after, guard⟩ := o
  simp only at ho; subst ho
  simp [execOp, ex, rz, Instr.index, asIntOf, hd1, hlt, hX.run_sizeOf hj, u1]
end

section
variable {P : Program} {X : Ctx} {ops : Array Oper} {o : Oper} {rest : List Oper} {env : Env} {acc : List Fp} {Q : Env → St → List Fp → Prop} {σ : St}

/-- One operation, if it is none whose outcome hangs on facts. -/
theorem AOps.runP1 (hX : CtxOk P X) (kn : List Nat) (hs : simple o.op = true) {acc : List Fp} {rest' : List Oper} {env' : Env} {acc' : List Fp}
    (h : arunP X ops.toList σ.boxes kn 0 (o :: rest) env acc = .at rest' env' acc') (k : AOps P X ops rest' env' σ acc' Q) : AOps P X ops (o :: rest) env σ acc Q := AOps.runP hX 0 kn h k

theorem AOps.splitT {j d : Nat} {want b : Bool} (hg : o.guard = some (j, want)) (hs : slotOf ops j = some d) (hb : getK d env = some (.c (.bool b))) (hk : b = true)
    (h1 : b = true → AOps P X ops (o :: rest) env σ acc Q) : AOps P X ops (o :: rest) env σ acc Q := h1 hk
theorem AOps.splitF {j d : Nat} {want b : Bool} (hg : o.guard = some (j, want)) (hs : slotOf ops j = some d) (hb : getK d env = some (.c (.bool b))) (hk : b = false)
    (h1 : b = false → AOps P X ops (o :: rest) env σ acc Q) : AOps P X ops (o :: rest) env σ acc Q := h1 hk

theorem AOps.buildArr (hX : CtxOk P X) (kn : List Nat) (hg : aguard ops.toList kn env o = some true) {t : TypeId} {parts : Array (Nat × Operand)} (ho : o.op = .build t parts) {d : Nat} (hd : o.dst = some d) {i j : TI} {n e : Nat} (hi : X.ti t = some i) (hk : i.kind = .arr n e) (hj : X.ti e = some j)
    {z r : List AV} (hz : i.zero = some (.agg z)) (h : afill X (aeval X env) (arrFs j.size e 0 n) parts.toList z = some r)
    (k : AOps P X ops rest ((d, .agg r) :: env) σ (⟨[], []⟩ :: acc) Q) : AOps P X ops (o :: rest) env σ acc Q :=
  AOps.step (guard_in hg) (OpSem.buildArr hX ho hi hk hj hz h) (EffOk.id _) (by rw [hd]; exact k)

theorem AOps.indexArr (hX : CtxOk P X) (kn : List Nat) (hg : aguard ops.toList kn env o = some true) {t : TypeId} {x ix : Operand} (ho : o.op = .index t x ix) {d : Nat} (hd : o.dst = some d) {i j : TI} {n e : Nat} (hi : X.ti t = some i) (hk : i.kind = .arr n e) (hj : X.ti e = some j)
    {cs rest' : List AV} (hx : aeval X env x = some (.agg cs)) {ia : AV} (hz : aeval X env ix = some ia) {m : Nat} (hm : asNat ia = some m) (hmn : Nat.blt m n = true) (hdr : dropN (m * j.size) cs = some rest') {v : AV} (hv : aload j rest' = some v)
    (k : AOps P X ops rest ((d, v) :: env) σ (⟨[], []⟩ :: acc) Q) : AOps P X ops (o :: rest) env σ acc Q :=
  AOps.step (guard_in hg) (OpSem.indexArr hX ho hi hk hj hx hz hm hmn hdr hv) (EffOk.id _) (by rw [hd]; exact k)

theorem AOps.indexStr (hX : CtxOk P X) (kn : List Nat) (hg : aguard ops.toList kn env o = some true) {t : TypeId} {x ix : Operand} (ho : o.op = .index t x ix) {d : Nat} (hd : o.dst = some d) {i : TI} (hi : X.ti t = some i) (hk : i.kind = .str)
    {s : List UInt8} (hx : aeval X env x = some (.c (.str s))) {k : IntKind} {z : Int} (hz : aeval X env ix = some (.c (.int k z))) {m : Nat} (hm : z = m) {b : UInt8} (hb : s[m]? = some b)
    (k : AOps P X ops rest ((d, .c (.int .u8 b.toNat)) :: env) σ (⟨[], []⟩ :: acc) Q) : AOps P X ops (o :: rest) env σ acc Q := by
  subst hm
  refine AOps.look hX kn hg hd ?_ (by rw [ho]; rfl) k
  rw [ho]
  have ha : ∀ q : IntKind, asNat (.c (.int q (m : Int))) = some m := fun _ => rfl
  simp only [apure, hi, hx, hz, ha, hk, nth_eq, hb]

end
end Go.Abs

namespace Go.Abs

/-- Rows as a box's cells. -/
abbrev rowCells (rows : List CV) : List AV := (flatC rows).map AV.c

theorem drew_ok {w : World} {g : Gh} {σ : St} (h : Inv w g σ) : Inv w.drew g σ ∧ Keep w g σ w.drew g σ :=
  ⟨⟨h.imm, fun k cs e => by
      obtain ⟨b, b1, b2, b3, b4⟩ := h.box k cs e
      exact ⟨b, b1, b2, b3, CellsW.of_same (w := w) (w' := w.drew) (fun o => ⟨rfl, rfl⟩) b4⟩,
    h.boxinj, h.tok, h.tokinj, h.used, h.room⟩,
   ⟨rfl, rfl, rfl, Nat.le_refl _, fun _ _ _ => rfl, fun _ _ _ _ => ⟨rfl, rfl⟩, Imm.le.refl _, fun _ _ _ h => .inl h, fun k cs b h1 h2 => .inr ⟨k, cs, h1, h2⟩,
    fun k n b lo hi h1 h2 => .inr ⟨k, n, lo, hi, h1, h2, Nat.le_refl _, Nat.le_refl _⟩, fun _ _ h => ⟨h, rfl, rfl⟩⟩⟩

theorem relAL_c {g : Gh} : ∀ {cs : List CV} {vs : List Value}, RelL g.G cs vs → RelAL g (cs.map AV.c) vs
  | [], vs, h => by simp only [RelL] at h; subst h; simp [RelAL]
  | c :: cs, vs, h => by
    simp only [RelL] at h
    obtain ⟨u, us, rfl, h1, h2⟩ := h
    simp only [List.map_cons, RelAL]
    exact ⟨u, us, rfl, by simpa only [RelA] using h1, relAL_c h2⟩
theorem all_one_c : ∀ (cs : List CV), (cs.map AV.c).all AV.one = cs.all CV.one
  | [] => rfl
  | c :: cs => by simp only [List.map_cons, List.all_cons, all_one_c cs, AV.one]

section
variable {P : Program} {X : Ctx}

set_option maxHeartbeats 1600000 in
/-- An append that must grow makes a box. -/
theorem OpSem.appendN (hX : CtxOk P X) {o : Oper} {env : Env} {σ : St} {args : Array Operand} {ats : Array TypeId} (ho : o.op = .call { callee := .builtin .append, args := args, argTypes := ats })
    {xs y : Operand} (hargs : args.toList = [xs, y]) {t t1 : Nat} (hats : ats.toList = [t, t1]) {d : Nat} (hd1 : d < 1000000)
    {i j i1 : TI} {e : Nat} (hi : X.ti t = some i) (hk : i.kind = .slice e) (hj : X.ti e = some j) {za : AV} (hz : j.zero = some za) (hi1 : X.ti t1 = some i1) (hk1 : srcKind i1.kind = true)
    {s : Nat} {rows : List CV} (ha : aeval X env xs = some (.own .exact s rows)) {b : AV} (hb : aeval X env y = some b) {s1 : Nat} {rows1 : List CV} (hsrc : srcRows b = some (s1, rows1))
    (hs : okStride s j.size rows = true) (hs1 : okStride s1 j.size rows1 = true) (hne : rows1 ≠ []) (hu : mem d σ.used = false) (hby : Nat.ble 1 j.bytes = true) (hbound : (rows.length + rows1.length) * j.bytes ≤ 140737488355328) :
    OpSem P X o env σ (.bsl d 0 j.size (rows ++ rows1).length) (fun σ => σ.addBox d (rowCells (rows ++ rows1))) ⟨[], [d]⟩ := by
  intro env1 σ1 w g act next Q h1 h2 hinv hglob henv hnext
  have hopd : ∀ x ∈ args.toList, x ∈ o.op.operands.toList := by
    intro x hx
    rw [ho]; simp only [Op.operands, Call.operands, Array.toList_append, List.mem_append]; exact .inr hx
  have ha' : aeval X env1 xs = some (.own .exact s rows) := by rw [h1 xs (hopd xs (by simp [hargs]))]; exact ha
  have hb' : aeval X env1 y = some b := by rw [h1 y (hopd y (by simp [hargs]))]; exact hb
  have rA := aeval_ok (a := act) henv hglob ha'
  have rB := aeval_ok (a := act) henv hglob hb'
  simp only [RelA] at rA
  obtain ⟨base, len, cap, ex, hlen, hcap, hrows, hown⟩ := rA
  obtain ⟨_, n5⟩ := src_read (P := P) (w := w) hinv.imm hsrc hs1 rB
  obtain ⟨⟨news', n1', n2', n3', n4'⟩, _⟩ := src_read (P := P) (w := w.drew) (fun b o v h => by rw [World.cell?_drew]; exact hinv.imm b o v h) hsrc hs1 rB
  obtain ⟨olds, m1, m2, m3, m4⟩ := rows_read (P := P) (w := w.drew) (g := g) (fun b o v h => by rw [World.cell?_drew]; exact hinv.imm b o v h) hrows hs len cap hlen
  obtain ⟨dt, _, hdt2, hdt3⟩ := hX.run_underlying (w := w) hi
  rw [hk] at hdt2; simp only [KindOk] at hdt2; subst hdt2
  obtain ⟨d1, hd1', hd1''⟩ := kind_src hX hi1 (by unfold srcKind at hk1; exact hk1) w
  obtain ⟨inf, if1, if2, if3, if4, _, if6⟩ := hX.ti e j hj
  obtain ⟨z, z1, _, z3⟩ := if4 za hz
  have hnl' : news'.length = rows1.length * j.size := by rw [← (RelL.get n1').1, flatC_length n2']
  have hol : olds.length = rows.length * j.size := by rw [← (RelL.get m1).1, flatC_length m2]
  have hargs' : args = #[xs, y] := by cases args; simp_all
  have hats' : ats = #[t, t1] := by cases ats; simp_all
  have hby' := Nat.le_of_ble_eq_true hby
  have hsmall : rows.length + rows1.length ≤ 140737488355328 := Nat.le_trans (Nat.le_mul_of_pos_right _ hby') hbound
  have hpos : 0 < rows1.length := List.length_pos_iff.2 hne
  simp only [OwnOk] at hown
  have hgo : ∀ (v : Value) (w' : World), (Builtin.append_ #[t, t1] o.type #[.slice base len cap, act.eval y]).run P w = .ok v w' → (execOp act.eval o).run P w = .ok (.value v) w' := by
    intro v w' hr
    obtain ⟨dst, op, type, pos, after, guard⟩ := o
    simp only at ho hr; subst ho
    subst hargs' hats'
    simp [execOp, resolve, invoke, builtin, ex, hr, Result.andThen]
  unfold Oper.wp
  have hg : cap < len + rows1.length := by omega
  have hbd : (len + rows1.length) * inf.bytes ≤ 140737488355328 := by rw [if3, hlen]; exact hbound
  rw [hgo _ _ (run_append_grow' hdt3 hd1' hd1'' if1 z1 n5 (by rw [if2]; exact n4') (by rw [if2]; exact m4) hg (by omega) hbd)]
  rw [Oper.upon_value]
  have hge := grownCap_ge w (len + rows1.length) cap e
  generalize grownCap w (len + rows1.length) cap e = nc at hge ⊢
  have hus : (olds.toArray ++ news'.toArray ++ Builtin.zeroCells z.cells (nc - (len + rows1.length))).size = nc * j.size := by
    simp only [Array.size_append, List.size_toArray, size_zeroCells, hol, hnl', z3, ← hlen, ← Nat.add_mul]
    congr 1; omega
  have hdu : d ∉ σ1.used := fun h => not_mem_used hu ((h2 d (.inr (by simp))).2.2.1 h)
  obtain ⟨e1, e2⟩ := drew_ok hinv
  have hrel : RelL g.G (flatC (rows ++ rows1)) (olds ++ news') := by rw [flatC_append]; exact relL_append m1 n1'
  have hfl : (flatC (rows ++ rows1)).length = (olds ++ news').length := (RelL.get hrel).1
  have hrc : RelAL g (rowCells (rows ++ rows1)) ((olds.toArray ++ news'.toArray ++ Builtin.zeroCells z.cells (nc - (len + rows1.length))).toList.take (rowCells (rows ++ rows1)).length) := by
    rw [List.length_map, hfl]
    simp only [Array.toList_append]
    rw [List.take_left']
    · exact relAL_c hrel
    · simp
  have hone : (rowCells (rows ++ rows1)).all AV.one = true := by
    rw [all_one_c, flatC_append, List.all_append, m3, n3']; rfl
  obtain ⟨i1, i2, i3, i4⟩ := newBox' (t := e) e1 hdu hd1 hrc hone
  refine hnext _ _ _ ?_ i1 (e2.trans i2) i3
  simp only [RelA]
  refine ⟨w.heap.size, nc, some ⟨w.heap.size, 0, none⟩, by simp, ?_, ?_, ?_, .inr rfl⟩
  · simp [hlen]
  · simp only [List.length_append]; omega
  · simp only [if_pos, hus]; omega
end
end Go.Abs
namespace Go.Abs
/-- A box away. -/
def St.dropBox (σ : St) (key : Nat) : St := ⟨delK key σ.boxes, σ.toks, σ.used⟩
end Go.Abs
namespace Go.Abs
theorem cellsW_vals {w : World} {g : Gh} {b : Nat} : ∀ {cs : List CV} {tail : List AV} {o : Nat}, CellsW w g b o (cs.map AV.c ++ tail) → ∃ vs : List Value, RelL g.G cs vs ∧ (∀ (j : Nat) u, vs[j]? = some u → w.cell? ⟨b, o + j, none⟩ = some u) ∧ cs.all CV.one = true
  | [], _, _, _ => ⟨[], by simp [RelL], fun j u h => by simp at h, rfl⟩
  | c :: cs, tail, o, h => by
    simp only [List.map_cons, List.cons_append] at h
    obtain ⟨⟨u, h1, h2, h3⟩, _, h4⟩ := h
    obtain ⟨vs, i1, i2, i3⟩ := cellsW_vals h4
    refine ⟨u :: vs, by simp only [RelL]; exact ⟨u, vs, rfl, by simpa only [RelA] using h2, i1⟩, fun j v hj => ?_, by simp only [List.all_cons, i3, Bool.and_true]; simpa only [AV.one] using h3⟩
    cases j with
    | zero => simp at hj; subst hj; exact h1
    | succ j =>
      simp at hj
      have := i2 j v hj
      rwa [show o + 1 + j = o + (j + 1) from by omega] at this
section
variable {P : Program} {X : Ctx}

end
end Go.Abs

namespace Go.Abs
section
variable {P : Program} {X : Ctx}

end
end Go.Abs

namespace Go.Abs
section
variable {P : Program} {X : Ctx} {ops : Array Oper} {o : Oper} {rest : List Oper} {env : Env} {acc : List Fp} {Q : Env → St → List Fp → Prop} {bs : List (Nat × List AV)} {ts : List (Nat × Nat)} {us : List Nat} {σ : St}

theorem AOps.appendN (hX : CtxOk P X) (kn : List Nat) (hg : aguard ops.toList kn env o = some true) {args : Array Operand} {ats : Array TypeId} (ho : o.op = .call { callee := .builtin .append, args := args, argTypes := ats })
    {xs y : Operand} (hargs : args.toList = [xs, y]) {t t1 : Nat} (hats : ats.toList = [t, t1]) {d : Nat} (hd : o.dst = some d) (hd1 : Nat.blt d 1000000 = true)
    {i j i1 : TI} {e : Nat} (hi : X.ti t = some i) (hk : i.kind = .slice e) (hj : X.ti e = some j) {za : AV} (hz : j.zero = some za) (hi1 : X.ti t1 = some i1) (hk1 : srcKind i1.kind = true)
    {s : Nat} {rows : List CV} (ha : aeval X env xs = some (.own .exact s rows)) {b : AV} (hb : aeval X env y = some b) {s1 : Nat} {rows1 : List CV} (hsrc : srcRows b = some (s1, rows1))
    {sz : Nat} (hsz : j.size = sz) (hs : okStride s sz rows = true) (hs1 : okStride s1 sz rows1 = true) (hne : rows1 ≠ []) (hu : mem d us = false) {by_ : Nat} (hbz : j.bytes = by_) (hby : Nat.ble 1 by_ = true) (hbound : (rows.length + rows1.length) * by_ ≤ 140737488355328)
    {cs : List CV} (hcs : rows ++ rows1 = cs) {m : Nat} (hm : cs.length = m)
    (k : AOps P X ops rest ((d, .bsl d 0 sz m) :: env) ⟨(d, rowCells cs) :: bs, ts, d :: us⟩ (⟨[], [d]⟩ :: acc) Q) : AOps P X ops (o :: rest) env ⟨bs, ts, us⟩ acc Q := by
  subst hsz hbz hcs hm
  exact AOps.step (guard_in hg) (OpSem.appendN (σ := ⟨bs, ts, us⟩) hX ho hargs hats (Nat.blt_eq.mp hd1) hi hk hj hz hi1 hk1 ha hb hsrc hs hs1 hne hu hby hbound) (addBox_eff d _) (by rw [hd]; exact k)
end
end Go.Abs

namespace Go.Abs
section
variable {P : Program} {X : Ctx}
end
section
variable {P : Program} {X : Ctx} {ops : Array Oper} {o : Oper} {rest : List Oper} {env : Env} {acc : List Fp} {Q : Env → St → List Fp → Prop} {bs : List (Nat × List AV)} {ts : List (Nat × Nat)} {us : List Nat}
end
end Go.Abs
