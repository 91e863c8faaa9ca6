/- A layer of abstract values over the model, part D: A box of rows becomes memory that nobody writes. Calls that are given a slice over a block that may be written, or give one. Contracts of calls with slices over boxes: by a walk, and by what is known of the world. Slices told from nil, and conditions that are not known. Results that say less than what is known. Operations that make or write memory, worked out in one step. -/
import Derived.Test.YtcinhjfonmjneaaLibC
set_option linter.unusedSimpArgs false
set_option linter.unusedVariables false
namespace Go.Abs

/-- Lists, environments and boxes, each value turned into one that it may be taken for. -/
def PtL (T : AV → AV → Prop) : List AV → List AV → Prop
  | [], [] => True
  | a :: l, b :: m => T a b ∧ PtL T l m
  | _, _ => False
def PtE (T : AV → AV → Prop) (env : Env) : Env → Prop
  | [] => True
  | (t, a') :: l => (∃ a, getK t env = some a ∧ T a a') ∧ PtE T env l
def PtB (T : AV → AV → Prop) (bs : List (Nat × List AV)) : List (Nat × List AV) → Prop
  | [] => True
  | (k, cells') :: l => (∃ cells, getK k bs = some cells ∧ PtL T cells cells') ∧ PtB T bs l
/-- What a value is when the box, of such rows, is frozen. -/
def Frz (key s : Nat) (rows : List CV) (a a' : AV) : Prop := a' = a ∨ ∃ n, a = .bsl key 0 s n ∧ n = rows.length ∧ a' = .c (.sl s rows)
/-- A slice without rows is one of rows of any width. -/
def Nil (a a' : AV) : Prop := a' = a ∨ ∃ s0 s1, (a = .c (.sl s0 []) ∨ a = .own .exact s0 []) ∧ a' = .c (.sl s1 [])

theorem ptE_get {T : AV → AV → Prop} {env : Env} : ∀ {env' : Env}, PtE T env env' → ∀ t a', getK t env' = some a' → ∃ a, getK t env = some a ∧ T a a'
  | [], _, t, a', e => by simp [getK] at e
  | (t0, a0) :: l, ⟨h1, h2⟩, t, a', e => by
    simp only [getK_cons] at e
    split at e
    · rename_i ht; subst ht; simp at e; subst e; exact h1
    · exact ptE_get h2 t a' e
theorem ptB_get {T : AV → AV → Prop} {bs : List (Nat × List AV)} : ∀ {bs' : List (Nat × List AV)}, PtB T bs bs' → ∀ k cs', getK k bs' = some cs' → ∃ cs, getK k bs = some cs ∧ PtL T cs cs'
  | [], _, t, a', e => by simp [getK] at e
  | (t0, a0) :: l, ⟨h1, h2⟩, t, a', e => by
    simp only [getK_cons] at e
    split at e
    · rename_i ht; subst ht; simp at e; subst e; exact h1
    · exact ptB_get h2 t a' e
theorem not_key {key : Nat} : ∀ {bs : List (Nat × List AV)}, (bs.all fun p => !Nat.beq p.1 key) = true → ∀ k cs, getK k bs = some cs → k ≠ key
  | [], _, k, cs, e => by simp [getK] at e
  | (t0, a0) :: l, h, k, cs, e => by
    simp only [List.all_cons, Bool.and_eq_true] at h
    simp only [getK_cons] at e
    split at e
    · rename_i ht; subst ht
      exact beq_false (by simpa using h.1)
    · exact not_key h.2 k cs e

section
variable {P : Program} {X : Ctx} {f : FuncId} {n : Nat} {β : Base} {R : Ending → World → Prop} {K : List Item} {env : Env}

/-- Go on with the box frozen: the slice into it is a value. -/
theorem AK.freezeB {bs : List (Nat × List AV)} {ts : List (Nat × Nat)} {us : List Nat} (key s : Nat) (rows : List CV) {cells tail : List AV} {env' : Env} {bs' : List (Nat × List AV)} {ts' : List (Nat × Nat)}
    (hk : getK key bs = some cells) (hc : cells = rowCells rows ++ tail) (hs : ∀ r ∈ rows, r.cells.length = s)
    (he : PtE (Frz key s rows) env env') (hb : PtB (Frz key s rows) bs bs') (hk' : (bs'.all fun p => !Nat.beq p.1 key) = true) (ht : HasT ts ts')
    (h : AK P X f n β R K env' ⟨bs', ts', us⟩) : AK P X f n β R K env ⟨bs, ts, us⟩ := by
  intro g w a cs hL
  obtain ⟨b, hb1, hb2, hb3, hb4⟩ := hL.inv.box key cells hk
  let G' : Imm := fun b' o => if b' = b ∧ o < (flatC rows).length then w.cell? ⟨b, o, none⟩ else g.G b' o
  let g' : Gh := ⟨G', g.box, g.tok, g.room⟩
  have hGle : g.G.le G' := by
    intro b' o v hv
    by_cases hbb : b' = b
    · subst hbb; rw [hb3] at hv; simp at hv
    · simp only [G', hbb, false_and, if_false]; exact hv
  have hle : g.le g' := ⟨hGle, fun _ _ x => x, fun _ _ _ => rfl, fun k hw reg x => ⟨hw, reg, x, Nat.le_refl _, fun _ => rfl⟩⟩
  have hnone : ∀ b' o, b' ≠ b → g.G b' o = none → G' b' o = none := by
    intro b' o hbb hv
    simp only [G', hbb, false_and, if_false]; exact hv
  rw [hc] at hb4
  obtain ⟨vs, v1, v2, v3⟩ := cellsW_vals hb4
  have hvl := (RelL.get v1).1
  have hcells : CellsG G' b 0 (flatC rows) := by
    refine cellsG_of_vals (RelL.mono hGle _ _ v1) (fun j u hj => ?_) v3
    have hlt : j < vs.length := (List.getElem?_eq_some_iff.1 hj).1
    show (if b = b ∧ 0 + j < (flatC rows).length then w.cell? ⟨b, 0 + j, none⟩ else g.G b (0 + j)) = some u
    rw [if_pos ⟨rfl, by omega⟩]
    exact v2 j u hj
  have hrows : RowsG G' s b 0 rows := rowsG_iff.2 ⟨hcells, hs⟩
  have hF : ∀ a a' v, Frz key s rows a a' → RelA g a v → RelA g' a' v := by
    rintro a a' v (rfl | ⟨m, rfl, hm, rfl⟩) hr
    · exact RelA.mono hle _ _ hr
    · simp only [RelA] at hr
      obtain ⟨b', cap, o, e1, rfl, e2, e3, e4⟩ := hr
      rw [hb1] at e1; cases e1
      simp only [RelA, Rel]
      refine ⟨_, m, cap, rfl, hm, e2, ?_⟩
      rcases e4 with e4 | rfl
      · left; exact List.length_eq_zero_iff.1 (by omega)
      · right; exact ⟨b, 0, rfl, hrows⟩
  have hCW : ∀ (l l' : List AV) (b' o : Nat), PtL (Frz key s rows) l l' → CellsW w g b' o l → CellsW w g' b' o l' := by
    intro l
    induction l with
    | nil => intro l' b' o h1 _; cases l' with
      | nil => trivial
      | cons x m => simp [PtL] at h1
    | cons x l ih => intro l' b' o h1 h2; cases l' with
      | nil => simp [PtL] at h1
      | cons y m =>
        obtain ⟨h3, h4⟩ := h1
        obtain ⟨⟨u, f1, f2, f3⟩, f4, f5⟩ := h2
        refine ⟨⟨u, f1, hF _ _ _ h3 f2, ?_⟩, f4, ih m b' (o + 1) h4 f5⟩
        rcases h3 with rfl | ⟨m, rfl, hm, rfl⟩
        · exact f3
        · rfl
  have hother : ∀ k cs b', k ≠ key → getK k bs = some cs → g.box k = some b' → b' ≠ b := by
    rintro k cs b' h1 h2 h3 rfl
    exact h1 (hL.inv.boxinj k key cs cells _ h2 hk h3 hb1)
  have hT : ∀ k m, getK k ts' = some m → getK k ts = some m := fun k m e => hasT_get ht k m e
  have hinv : Inv w g' ⟨bs', ts', us⟩ := by
    refine ⟨?_, ?_, ?_, ?_, ?_, hL.inv.used, ?_⟩
    · intro b' o v hv
      simp only [g', G'] at hv
      split at hv
      · rename_i hh; obtain ⟨rfl, _⟩ := hh; exact hv
      · exact hL.inv.imm b' o v hv
    · intro k cs' e
      have h1 := not_key hk' k cs' e
      obtain ⟨cs0, h2, h3⟩ := ptB_get hb k cs' e
      obtain ⟨b', f1, f2, f3, f4⟩ := hL.inv.box k cs0 h2
      exact ⟨b', f1, f2, fun o => hnone b' o (hother k cs0 b' h1 h2 f1) (f3 o), hCW _ _ _ _ h3 f4⟩
    · intro k k' x x' b' e e' e1 e2
      obtain ⟨cs0, h2, _⟩ := ptB_get hb k x e
      obtain ⟨cs1, h2', _⟩ := ptB_get hb k' x' e'
      exact hL.inv.boxinj k k' cs0 cs1 b' h2 h2' e1 e2
    · intro k m e
      obtain ⟨reg, e1, e2⟩ := hL.inv.tok k m (hT k m e)
      refine ⟨reg, e1, fun b' lo hi hr => ?_⟩
      obtain ⟨e3, e4, e5⟩ := e2 b' lo hi hr
      have hbb : b' ≠ b := by rintro rfl; exact e5 key cells hk hb1
      refine ⟨e3, fun o h1 h2 => ?_, fun k' cs' e' => ?_⟩
      · obtain ⟨e6, e7, e8⟩ := e4 o h1 h2
        exact ⟨hnone b' o hbb e6, e7, e8⟩
      · obtain ⟨cs0, h2, _⟩ := ptB_get hb k' cs' e'
        exact e5 k' cs0 h2
    · intro k k' m m' b' lo hi lo' hi' e e' e1 e2
      exact hL.inv.tokinj k k' m m' b' lo hi lo' hi' (hT k m e) (hT k' m' e') e1 e2
    · intro k cs' b' e e1 o
      obtain ⟨cs0, h2, _⟩ := ptB_get hb k cs' e
      exact hL.inv.room k cs0 b' h2 e1 o
  have hkeep : Keep w g ⟨bs, ts, us⟩ w g' ⟨bs', ts', us⟩ := by
    refine ⟨rfl, rfl, rfl, Nat.le_refl _, fun _ _ _ => rfl, fun _ _ _ _ => ⟨rfl, rfl⟩, hGle, ?_, ?_, ?_, ?_⟩
    · intro b' o v hv
      simp only [g', G'] at hv
      split at hv
      · rename_i hh; obtain ⟨rfl, _⟩ := hh; exact .inr (.inr (.inl ⟨key, cells, hk, hb1⟩))
      · exact .inl hv
    · intro k cs' b' e e1
      obtain ⟨cs0, h2, _⟩ := ptB_get hb k cs' e
      exact .inr ⟨k, cs0, h2, e1⟩
    · intro k m b' lo hi e e1
      exact .inr ⟨k, m, lo, hi, hT k m e, e1, Nat.le_refl _, Nat.le_refl _⟩
    · intro k _ e
      cases hcs : getK k bs' with
      | none => exact absurd hcs e
      | some cs' =>
        obtain ⟨cs0, h2, _⟩ := ptB_get hb k cs' hcs
        exact ⟨by show getK k bs ≠ none; rw [h2]; simp, rfl, rfl⟩
  refine h g' w a cs ⟨hinv, ?_, ?_, hL.frame.trans hkeep, hL.size, hL.defers⟩
  · exact fun m v hm => Rel.mono hGle _ _ (hL.glob m v hm)
  · intro t x e
    obtain ⟨a0, h1, h2⟩ := ptE_get he t x e
    exact hF _ _ _ h2 (hL.env t a0 h1)

theorem Nil.rel : ∀ (g : Gh) (a a' : AV) (v : Value), Nil a a' → RelA g a v → RelA g a' v := by
  rintro g a a' v (rfl | ⟨s0, s1, rfl | rfl, rfl⟩) hr
  · exact hr
  · simp only [RelA, Rel] at hr ⊢
    obtain ⟨base, len, cap, e, h1, h2, _⟩ := hr
    exact ⟨base, len, cap, e, h1, h2, .inl trivial⟩
  · simp only [RelA, Rel] at hr ⊢
    obtain ⟨base, len, cap, e, h1, h2, _⟩ := hr
    exact ⟨base, len, cap, e, h1, h2, .inl trivial⟩
theorem Nil.one : ∀ (a a' : AV), Nil a a' → a.one = true → a'.one = true := by
  rintro a a' (rfl | ⟨s0, s1, rfl | rfl, rfl⟩) h
  · exact h
  · rfl
  · rfl
theorem writeAt_one {v : AV} : ∀ {o : Nat} {l : List AV}, o < l.length → writeAt o [v] l = some (l.set o v)
  | _, [], h => by simp at h
  | 0, x :: l, _ => by simp [writeAt]
  | o + 1, x :: l, h => by
    have := writeAt_one (v := v) (o := o) (l := l) (by simpa using h)
    simp only [writeAt, this, List.set_cons_succ]
end
end Go.Abs

namespace Go.Abs

/-- The state of such a call: one box, or none. -/
def gSt (k : Nat) : Option (List CV) → St
  | none => ⟨[], [], []⟩
  | some cells => ⟨[(k, cells.map AV.c)], [], [k]⟩
def GR (β : Base) (r : AV) (bo : Option (List CV)) : Ending → World → Prop := fun e w' =>
  ∃ u g', e = .returned u ∧ RelA g' r u ∧ Inv w' g' (gSt 999999 bo) ∧ Keep β.w β.g β.σ w' g' (gSt 999999 bo)
/-- A call with a box (by the name 1000000) or none gives such a result, which may be a slice over a box (by the name 999999). -/
def GCalls (P : Program) (X : Ctx) (f : FuncId) (bi : Option (List CV)) (args : List AV) (r : AV) (bo : Option (List CV)) : Prop :=
  Enters P f ∧ ∀ (g : Gh) (w : World) (vs : List Value), Inv w g (gSt 1000000 bi) → GlobOk X g.G → RelAL g args vs →
    Calls P f vs.toArray w (GR ⟨w, g, gSt 1000000 bi⟩ r bo)

/-- The names at the call's beginning. -/
def renG (key : Option Nat) : Ren := ⟨fun k => if k = 1000000 then key else none, fun _ => none⟩
section
variable {P : Program} {X : Ctx}
end

section
variable {P : Program} {X : Ctx} {ops : Array Oper} {o : Oper} {rest : List Oper} {env : Env} {acc : List Fp} {Q : Env → St → List Fp → Prop} {bs : List (Nat × List AV)} {ts : List (Nat × Nat)} {us : List Nat} {σ : St}
end
end Go.Abs

namespace Go.Abs

theorem GCalls.of {P : Program} {X : Ctx} {f : FuncId} {fn : Func} {c : Code} {bi bo : Option (List CV)} {args : List AV} {r : AV} (hf : P.funcs[f]? = some fn) (hb : fn.body = some c) (he : Enters P f)
    (hn : args.length ≤ fn.ntmps) (env : Env) (σ : St) (henv : env = (args.zipIdx.map fun (v, i) => (i, v))) (hst : gSt 1000000 bi = σ)
    (h : ∀ β, AK P X f fn.ntmps β (GR β r bo) [.code c] env σ) : GCalls P X f bi args r bo := by
  subst hst
  refine ⟨he, fun g w vs hinv hglob hrel cs => ?_⟩
  have hlen := (RelAL.get hrel).1
  have hL : Live X ⟨w, g, gSt 1000000 bi⟩ fn.ntmps env (gSt 1000000 bi) g w { tmps := vs.toArray ++ Array.replicate (fn.ntmps - vs.toArray.size) undef, defers := [] } := by
    refine ⟨hinv, hglob, ?_, Keep.refl _ _ _, ?_, rfl⟩
    · intro t a e
      subst henv
      have key : ∀ (l : List AV) (us : List Value) (k : Nat), RelAL g l us → getK t ((l.zipIdx k).map fun (v, i) => (i, v)) = some a → k ≤ t ∧ ∃ u, us[t - k]? = some u ∧ RelA g a u := by
        intro l
        induction l with
        | nil => intro us k _ e; simp [getK] at e
        | cons v l ih =>
          intro us k hr e
          simp only [RelAL] at hr
          obtain ⟨u, us, rfl, h1, h2⟩ := hr
          simp only [List.zipIdx_cons, List.map_cons, getK_cons] at e
          split at e
          · rename_i ht; subst ht; simp at e; subst e
            exact ⟨Nat.le_refl _, u, by simp, h1⟩
          · rename_i ht
            obtain ⟨h3, u', h4, h5⟩ := ih us (k + 1) h2 e
            refine ⟨by omega, u', ?_, h5⟩
            rw [show t - k = (t - (k + 1)) + 1 from by omega]; simpa using h4
      obtain ⟨_, u, h4, h5⟩ := key args vs 0 hrel e
      simp at h4
      have hlt : t < vs.length := (List.getElem?_eq_some_iff.1 h4).1
      have : (vs.toArray ++ Array.replicate (fn.ntmps - vs.toArray.size) undef).getD t undef = u := by
        rw [Array.getD_eq_getD_getElem?, Array.getElem?_append_left (by simpa using hlt)]
        simp [h4]
      rw [this]; exact h5
    · simp; omega
  obtain ⟨e, w', fr, h1, h4, h5, h6⟩ := h ⟨w, g, gSt 1000000 bi⟩ g w _ cs hL
  have henter : Frame.enter P f vs.toArray .normal =
      (top f).at { tmps := vs.toArray ++ Array.replicate (fn.ntmps - vs.toArray.size) undef, defers := [] } [.code c] := by
    simp [Frame.enter, Frame.at, hf, hb, top]
  exact ⟨_, w', fr, h1, by rw [henter]; exact h4, h5, h6⟩

section
variable {P : Program} {X : Ctx} {f : FuncId} {n : Nat} {β : Base} {K : List Item} {env : Env}
end

/-- What is known of the world behind: one block may be another one, or there is a new one; it holds so much. -/
structure RawSl (w : World) (b : Nat) (w' : World) (b' : Nat) (news : List Value) : Prop where
  os : w'.os = w.os
  tape : w'.tape = w.tape
  output : w'.output = w.output
  size : w.heap.size ≤ w'.heap.size
  blk : b' = b ∨ w.heap.size ≤ b'
  cells : ∀ (j : Nat) u, news[j]? = some u → w'.cell? ⟨b', j, none⟩ = some u
  rest : ∀ b2, b2 < w.heap.size → b2 ≠ b → w'.heap[b2]? = w.heap[b2]?

end Go.Abs

namespace Go.Abs

/-- A slice of which it is known that it is not nil. -/
def notNil : AV → Bool
  | .c (.sl _ (_ :: _)) => true
  | .own _ _ (_ :: _) => true
  | .bsl .. => true
  | _ => false
def isSl : AV → Bool
  | .c (.sl ..) => true
  | .own .. => true
  | .bsl .. => true
  | _ => false
/-- Is it nil? -/
def nilRes (a : AV) : CV := match notNil a with
  | true => .bool false
  | false => .abool

theorem isSl_val {g : Gh} {a : AV} {u : Value} (h : isSl a = true) (hr : RelA g a u) : ∃ base len cap, u = .slice base len cap ∧ (notNil a = true → base ≠ none) := by
  unfold isSl at h
  split at h
  · rename_i s rows
    simp only [RelA, Rel] at hr
    obtain ⟨base, len, cap, rfl, hl, hc, hr⟩ := hr
    refine ⟨base, len, cap, rfl, fun hn => ?_⟩
    rcases hr with rfl | ⟨b, o, rfl, _⟩
    · simp [notNil] at hn
    · simp
  · rename_i k s rows
    simp only [RelA] at hr
    obtain ⟨base, len, cap, rfl, hl, hc, hr, _⟩ := hr
    refine ⟨base, len, cap, rfl, fun hn => ?_⟩
    rcases hr with rfl | ⟨b, o, rfl, _⟩
    · simp [notNil] at hn
    · simp
  · simp only [RelA] at hr
    obtain ⟨b, cap, o, _, rfl, _⟩ := hr
    exact ⟨_, _, _, rfl, fun _ => by simp⟩
  · simp at h

section
variable {P : Program} {X : Ctx}

theorem run_equalIn_sl1 {t e : TypeId} {w : World} (d : Nat) (h : (underlying t).run P w = .ok (.slice e) w) (a : Addr) (n m : Nat) :
    (Op.equalIn (d + 1) t (.slice (some a) n m) (.slice none 0 0)).run P w = .ok false w := by simp [Op.equalIn, h]
theorem run_equalIn_sl0 {t e : TypeId} {w : World} (d : Nat) (h : (underlying t).run P w = .ok (.slice e) w) (n m : Nat) :
    (Op.equalIn (d + 1) t (.slice none n m) (.slice none 0 0)).run P w = .ok true w := by simp [Op.equalIn, h]
theorem run_equal_slice_nil {t e : TypeId} {w : World} (h : (underlying t).run P w = .ok (.slice e) w) (base : Option Addr) (n m : Nat) :
    (Op.equal t (.slice base n m) (.slice none 0 0)).run P w = .ok base.isNone w := by
  cases base with
  | none => exact run_equalIn_sl0 9999 h n m
  | some a => exact run_equalIn_sl1 9999 h a n m

/-- A slice held against nil. -/
theorem OpSem.nilEq (hX : CtxOk P X) {o : Oper} {env : Env} {σ : St} {t yt : TypeId} {x : Operand} (ho : o.op = .binOp .eql t x (.const (.slice none 0 0)) yt) {i : TI} {e : Nat} (hi : X.ti t = some i) (hk : i.kind = .slice e)
    {a : AV} (hx : aeval X env x = some a) (ha : isSl a = true) : OpSem P X o env σ (.c (nilRes a)) (fun σ => σ) ⟨[], []⟩ := by
  refine OpSem.val fun env1 w g act h1 himm hglob henv => ?_
  have hx' : aeval X env1 x = some a := by rw [h1 x (by rw [ho]; simp [Op.operands])]; exact hx
  obtain ⟨base, len, cap, hv, hn⟩ := isSl_val ha (aeval_ok (a := act) henv hglob hx')
  obtain ⟨d1, hd1, hd2, hd3⟩ := hX.run_underlying (w := w) hi
  rw [hk] at hd2; simp only [KindOk] at hd2; subst hd2
  refine ⟨Value.bool base.isNone, ?_, ?_⟩
  · obtain ⟨dst, op, type, pos, after, guard⟩ := o
    simp only at ho; subst ho
    have he : binOp .eql t (.slice base len cap) (.slice none 0 0) = (do Pure.pure (Value.bool (← Op.equal t (.slice base len cap) (.slice none 0 0)))) := rfl
    have hc : act.eval (.const (.slice none 0 0)) = .slice none 0 0 := rfl
    simp [execOp, hv, hc, he, eqGuard_at_slice, run_equal_slice_nil hd1]
  · unfold nilRes
    split
    · rename_i hh
      simp only [RelA, Rel]
      have := hn hh
      cases base <;> simp at this ⊢
    · simp only [RelA, Rel]; exact ⟨_, rfl⟩

variable {ops : Array Oper} {rest : List Oper} {o : Oper} {env : Env} {σ : St} {acc : List Fp} {Q : Env → St → List Fp → Prop}
theorem AOps.nilEq (hX : CtxOk P X) (kn : List Nat) (hg : aguard ops.toList kn env o = some true) {t yt : TypeId} {x : Operand} (ho : o.op = .binOp .eql t x (.const (.slice none 0 0)) yt) {d : Nat} (hd : o.dst = some d) {i : TI} {e : Nat} (hi : X.ti t = some i) (hk : i.kind = .slice e)
    {a : AV} (hx : aeval X env x = some a) (ha : isSl a = true) {v : CV} (hv : nilRes a = v)
    (k : AOps P X ops rest ((d, .c v) :: env) σ (⟨[], []⟩ :: acc) Q) : AOps P X ops (o :: rest) env σ acc Q := by
  subst hv
  exact AOps.step (guard_in hg) (OpSem.nilEq hX ho hi hk hx ha) (EffOk.id _) (by rw [hd]; exact k)

variable {f : FuncId} {n : Nat} {β : Base} {R : Ending → World → Prop} {K : List Item}
end
end Go.Abs

namespace Go.Abs

mutual
/-- What the first is, the second is, too. -/
def Wk : CV → CV → Prop
  | .sl s rows, .sl t rows' => (s = t ∧ rows = rows') ∨ (rows = [] ∧ rows' = [])
  | .agg l, .agg m => WkL l m
  | .tup l, .tup m => WkL l m
  | v, .any => v.one = true
  | v, w => v = w
def WkL : List CV → List CV → Prop
  | [], [] => True
  | v :: l, w :: m => Wk v w ∧ WkL l m
  | _, _ => False
end

mutual
theorem Wk.refl : ∀ (v : CV), Wk v v
  | .sl s rows => by unfold Wk; exact .inl ⟨rfl, rfl⟩
  | .agg l => by simp only [Wk]; exact WkL.refl l
  | .tup l => by simp only [Wk]; exact WkL.refl l
  | .any => by simp only [Wk]; rfl
  | .int .. => by simp only [Wk]
  | .bool .. => by simp only [Wk]
  | .str .. => by simp only [Wk]
  | .nilp => by simp only [Wk]
  | .undef => by simp only [Wk]
  | .ip .. => by simp only [Wk]
  | .clo .. => by simp only [Wk]
  | .abool => by simp only [Wk]
theorem WkL.refl : ∀ (l : List CV), WkL l l
  | [] => by simp only [WkL]
  | v :: l => by simp only [WkL]; exact ⟨Wk.refl v, WkL.refl l⟩
end
theorem one_any {G : Imm} {v : CV} {u : Value} (h : v.one = true) (hr : Rel G v u) : (∀ vs, u ≠ .agg vs) ∧ ∀ vs, u ≠ .tuple vs := by
  cases v <;> simp [CV.one] at h <;> simp only [Rel] at hr
  case int => subst hr; simp
  case bool => subst hr; simp
  case str => subst hr; simp
  case nilp => subst hr; simp
  case sl => obtain ⟨_, _, _, rfl, _⟩ := hr; simp
  case ip => obtain ⟨_, _, rfl, _⟩ := hr; simp
  case clo => obtain ⟨_, rfl, _⟩ := hr; simp
  case any => exact hr
  case abool => obtain ⟨_, rfl⟩ := hr; simp

theorem wk_one {v w : CV} (h : Wk v w) (h1 : v.one = true) : w.one = true := by
  unfold Wk at h
  split at h
  · rfl
  · simp [CV.one] at h1
  · simp [CV.one] at h1
  · rfl
  · subst h; exact h1

mutual
theorem Wk.rel {G : Imm} : ∀ {v w : CV} {u : Value}, Wk v w → Rel G v u → Rel G w u
  | .sl s rows, w, u, h, hr => by
    cases w
    case sl t rows' =>
      unfold Wk at h
      rcases h with ⟨rfl, rfl⟩ | ⟨rfl, rfl⟩
      · exact hr
      · simp only [Rel] at hr ⊢
        obtain ⟨base, len, cap, e1, e2, e3, _⟩ := hr
        exact ⟨base, len, cap, e1, e2, e3, by simp⟩
    case any => unfold Wk at h; simp only [Rel]; exact one_any h hr
    all_goals (unfold Wk at h; cases h)
  | .agg l, w, u, h, hr => by
    cases w <;> simp only [Wk] at h
    case agg m =>
      simp only [Rel] at hr ⊢
      obtain ⟨vs, e1, e2, e3⟩ := hr
      obtain ⟨g1, g2, _⟩ := WkL.rel h e2
      exact ⟨vs, e1, g1, g2 e3⟩
    case any => simp [CV.one] at h
    all_goals (cases h)
  | .tup l, w, u, h, hr => by
    cases w <;> simp only [Wk] at h
    case tup m =>
      simp only [Rel] at hr ⊢
      obtain ⟨vs, e1, e2, e3⟩ := hr
      obtain ⟨g1, _, g2⟩ := WkL.rel h e2
      exact ⟨vs, e1, g1, by omega⟩
    case any => simp [CV.one] at h
    all_goals (cases h)
  | .any, w, u, h, hr => by cases w <;> simp only [Wk] at h <;> first | exact hr | cases h
  | .int .., w, u, h, hr => by cases w <;> simp only [Wk] at h <;> first | (simp only [Rel]; exact one_any h hr) | (rw [← h]; exact hr) | cases h
  | .bool .., w, u, h, hr => by cases w <;> simp only [Wk] at h <;> first | (simp only [Rel]; exact one_any h hr) | (rw [← h]; exact hr) | cases h
  | .str .., w, u, h, hr => by cases w <;> simp only [Wk] at h <;> first | (simp only [Rel]; exact one_any h hr) | (rw [← h]; exact hr) | cases h
  | .nilp, w, u, h, hr => by cases w <;> simp only [Wk] at h <;> first | (simp only [Rel]; exact one_any h hr) | exact hr | cases h
  | .undef, w, u, h, hr => by cases w <;> simp only [Wk] at h <;> first | exact hr | (simp [CV.one] at h) | cases h
  | .ip .., w, u, h, hr => by cases w <;> simp only [Wk] at h <;> first | (simp only [Rel]; exact one_any h hr) | (rw [← h]; exact hr) | cases h
  | .clo .., w, u, h, hr => by cases w <;> simp only [Wk] at h <;> first | (simp only [Rel]; exact one_any h hr) | (rw [← h]; exact hr) | cases h
  | .abool, w, u, h, hr => by cases w <;> simp only [Wk] at h <;> first | (simp only [Rel]; exact one_any h hr) | exact hr | cases h
theorem WkL.rel {G : Imm} : ∀ {l m : List CV} {us : List Value}, WkL l m → RelL G l us → RelL G m us ∧ (l.all CV.one = true → m.all CV.one = true) ∧ l.length = m.length
  | [], [], us, _, hr => ⟨hr, id, rfl⟩
  | v :: l, w :: m, us, h, hr => by
    simp only [WkL] at h
    simp only [RelL] at hr ⊢
    obtain ⟨u, us, rfl, r1, r2⟩ := hr
    obtain ⟨g1, g2, g3⟩ := WkL.rel h.2 r2
    refine ⟨⟨u, us, rfl, Wk.rel h.1 r1, g1⟩, ?_, by simp [g3]⟩
    simp only [List.all_cons, Bool.and_eq_true]
    rintro ⟨o1, o2⟩
    exact ⟨wk_one h.1 o1, g2 o2⟩
  | [], _ :: _, _, h, _ => by simp [WkL] at h
  | _ :: _, [], _, h, _ => by simp [WkL] at h
end

section
variable {P : Program} {X : Ctx}
variable {f : FuncId} {n : Nat} {β : Base} {K : List Item} {env : Env} {σ : St}
end
end Go.Abs

namespace Go.Abs

/-- What is known behind an operation. -/
inductive SRes where
  | ok (env : Env) (bs : List (Nat × List AV)) (us : List Nat) (fp : Fp)
  | no

/-- A variable that is boxed, a new variable, a store, a slice or an array that is written out, a part of an array, a slice held against nil. -/
def stepB (X : Ctx) (all : List Oper) (o : Oper) (env : Env) (bs : List (Nat × List AV)) (us : List Nat) : SRes :=
  match aguard all kn env o with
  | some true => match o.op, o.dst with
    | .box _ x, some d => match aeval X env x with
      | some a => match cellsA a with
        | some cells => match memF d us with
          | false => .ok ((d, .ptr d 0) :: env) ((d, cells) :: bs) (d :: us) ⟨[], [d]⟩
          | true => .no
        | none => .no
      | none => .no
    | .alloc t, some d => match X.ti t with
      | some i => match i.zero with
        | some za => match cellsA za with
          | some cells => match memF d us with
            | false => .ok ((d, .ptr d 0) :: env) ((d, cells) :: bs) (d :: us) ⟨[], [d]⟩
            | true => .no
          | none => .no
        | none => .no
      | none => .no
    | .store t x y, none => match X.ti t, aeval X env x, aeval X env y with
      | some i, some (.ptr key off), some a => match getK key bs, cellsA a with
        | some cells, some vs => match Nat.beq vs.length i.size, writeAt off vs cells with
          | true, some r => match setKF key r bs with
            | some bs' => .ok env bs' us ⟨[], [key]⟩
            | none => .no
          | _, _ => .no
        | _, _ => .no
      | _, _, _ => .no
    | .buildSlice t len parts, some d => match X.ti t with
      | some i => match i.kind with
        | .slice e => match X.ti e with
          | some j => match j.zero, partRows (aeval X env) 0 parts.toList with
            | some _, some rows => match Nat.beq rows.length len, rowsShape j.size rows, Nat.ble (len * j.size) 16777216 with
              | true, true, true => .ok ((d, .own .exact j.size rows) :: env) bs us ⟨[], []⟩
              | _, _, _ => .no
            | _, _ => .no
          | none => .no
        | _ => .no
      | none => .no
    | .build t parts, some d => match X.ti t with
      | some i => match i.kind with
        | .arr n e => match X.ti e, i.zero with
          | some j, some (.agg z) => match afill X (aeval X env) (arrFs j.size e 0 n) parts.toList z with
            | some r => .ok ((d, .agg r) :: env) bs us ⟨[], []⟩
            | none => .no
          | _, _ => .no
        | _ => .no
      | none => .no
    | .index t x ix, some d => match X.ti t, aeval X env x, aeval X env ix with
      | some i, some (.agg cs), some ia => match i.kind, asNat ia with
        | .arr n e, some m => match X.ti e, Nat.blt m n with
          | some j, true => match dropN (m * j.size) cs with
            | some r => match aload j r with
              | some v => .ok ((d, v) :: env) bs us ⟨[], []⟩
              | none => .no
            | none => .no
          | _, _ => .no
        | _, _ => .no
      | _, _, _ => .no
    | .binOp .eql t x (.const (.slice none 0 0)) _, some d => match X.ti t, aeval X env x with
      | some i, some a => match i.kind, isSl a with
        | .slice _, true => .ok ((d, .c (nilRes a)) :: env) bs us ⟨[], []⟩
        | _, _ => .no
      | _, _ => .no
    | _, _ => .no
  | _ => .no

section
variable {P : Program} {X : Ctx} {ops : Array Oper} {o : Oper} {rest : List Oper} {env : Env} {acc : List Fp} {Q : Env → St → List Fp → Prop}
  {bs : List (Nat × List AV)} {ts : List (Nat × Nat)} {us : List Nat}

theorem AOps.stepB (hX : CtxOk P X) {env' : Env} {bs' : List (Nat × List AV)} {us' : List Nat} {fp : Fp} (h : stepB X ops.toList o env bs us = .ok env' bs' us' fp)
    (k : AOps P X ops rest env' ⟨bs', ts, us'⟩ (fp :: acc) Q) : AOps P X ops (o :: rest) env ⟨bs, ts, us⟩ acc Q := by
  unfold Go.Abs.stepB at h
  split at h
  · rename_i hg
    split at h
    · rename_i t x d hop hd
      split at h
      · rename_i a ha
        split at h
        · rename_i cells hc
          split at h
          · rename_i hm
            simp only [SRes.ok.injEq] at h
            obtain ⟨rfl, rfl, rfl, rfl⟩ := h
            exact AOps.box kn hg hop hd ha hc hm k
          · cases h
        · cases h
      · cases h
    · rename_i t d hop hd
      split at h
      · rename_i i hi
        split at h
        · rename_i za hz
          split at h
          · rename_i cells hc
            split at h
            · rename_i hm
              simp only [SRes.ok.injEq] at h
              obtain ⟨rfl, rfl, rfl, rfl⟩ := h
              exact AOps.alloc hX kn hg hop hd hi hz hc hm k
            · cases h
          · cases h
        · cases h
      · cases h
    · rename_i t x y hop hd
      split at h
      · rename_i i key off a hi hx hy
        split at h
        · rename_i cells vs hb hc
          split at h
          · rename_i r hl hw
            split at h
            · rename_i bs2 hs
              simp only [SRes.ok.injEq] at h
              obtain ⟨rfl, rfl, rfl, rfl⟩ := h
              exact AOps.store hX kn hg hop hd hi hx hy hb hc hl hw hs k
            · cases h
          · cases h
        · cases h
      · cases h
    · rename_i t len parts d hop hd
      split at h
      · rename_i i hi
        split at h
        · rename_i e hk
          split at h
          · rename_i j hj
            split at h
            · rename_i za rows hz hp
              split at h
              · rename_i h1 h2 h3
                simp only [SRes.ok.injEq] at h
                obtain ⟨rfl, rfl, rfl, rfl⟩ := h
                exact AOps.buildSlice hX kn hg hop hd hi hk hj hz hp h1 rfl h2 h3 k
              · cases h
            · cases h
          · cases h
        · cases h
      · cases h
    · rename_i t parts d hop hd
      split at h
      · rename_i i hi
        split at h
        · rename_i n e hk
          split at h
          · rename_i j z hj hz
            split at h
            · rename_i r hr
              simp only [SRes.ok.injEq] at h
              obtain ⟨rfl, rfl, rfl, rfl⟩ := h
              exact AOps.buildArr hX kn hg hop hd hi hk hj hz hr k
            · cases h
          · cases h
        · cases h
      · cases h
    · rename_i t x ix d hop hd
      split at h
      · rename_i i cs ia hi hx hz
        split at h
        · rename_i n e m hk hm
          split at h
          · rename_i j hj hb
            split at h
            · rename_i r hr
              split at h
              · rename_i v hv
                simp only [SRes.ok.injEq] at h
                obtain ⟨rfl, rfl, rfl, rfl⟩ := h
                exact AOps.indexArr hX kn hg hop hd hi hk hj hx hz hm hb hr hv k
              · cases h
            · cases h
          · cases h
        · cases h
      · cases h
    · rename_i t x yt d hop hd
      split at h
      · rename_i i a hi hx
        split at h
        · rename_i e hk ha
          simp only [SRes.ok.injEq] at h
          obtain ⟨rfl, rfl, rfl, rfl⟩ := h
          exact AOps.nilEq hX kn hg hop hd hi hk hx ha rfl k
        · cases h
      · cases h
    · cases h
  · cases h

/-- What an append onto a slice with room of its own comes to. -/
def stepA (X : Ctx) (all : List Oper) (o : Oper) (env : Env) (ts : List (Nat × Nat)) (us : List Nat) : Option (Nat × Nat × Nat × Nat × List CV × List CV × Nat × List (Nat × Nat)) :=
  match aguard all kn env o with
  | some true => match o.op, o.dst with
    | .call { callee := .builtin .append, args, argTypes }, some d => match args.toList, argTypes.toList with
      | [xs, y], [t, t1] => match X.ti t, X.ti t1, aeval X env xs, aeval X env y with
        | some i, some i1, some (.own ow s rows), some b => match i.kind, srcKind i1.kind, srcRows b with
          | .slice e, true, some (s1, rows1) => match X.ti e with
            | some j => match j.zero, okOwn s j.size rows ow, okStride s1 j.size rows1, Nat.ble 1 j.bytes with
              | some _, true, true, true => match appKey d us ts ow with
                | some (key, n) => match setKF key n ts with
                  | some ts' => some (d, key, n, j.size, rows, rows1, j.bytes, ts')
                  | none => none
                | none => none
              | _, _, _, _ => none
            | none => none
          | _, _, _ => none
        | _, _, _, _ => none
      | _, _ => none
    | _, _ => none
  | _ => none
theorem AOps.stepA (hX : CtxOk P X) {d key n sz by_ : Nat} {rows rows1 : List CV} {ts' : List (Nat × Nat)} (h : stepA X ops.toList o env ts us = some (d, key, n, sz, rows, rows1, by_, ts'))
    (hbound : (rows.length + rows1.length) * by_ ≤ 140737488355328)
    (k : AOps P X ops rest ((d, .own (.tok key n) sz (rows ++ rows1)) :: env) ⟨bs, ts', key :: us⟩ (⟨[], [key]⟩ :: acc) Q) : AOps P X ops (o :: rest) env ⟨bs, ts, us⟩ acc Q := by
  unfold Go.Abs.stepA at h
  split at h
  · rename_i hg
    split at h
    · rename_i args ats d' hop hd
      split at h
      · rename_i xs y t t1 hargs hats
        split at h
        · rename_i i i1 ow s rows' b hi hi1 ha hb
          split at h
          · rename_i e s1 rows1' hk hk1 hsrc
            split at h
            · rename_i j hj
              split at h
              · rename_i za hz hs hs1 hby
                split at h
                · rename_i key' n' hkey
                  split at h
                  · rename_i ts2 hts
                    simp only [Option.some.injEq, Prod.mk.injEq] at h
                    obtain ⟨rfl, rfl, rfl, rfl, rfl, rfl, rfl, rfl⟩ := h
                    exact AOps.append hX kn hg hop hargs hats hd hi hk hj hz hi1 hk1 ha hb hsrc rfl hs hs1 hkey rfl hby hts hbound k
                  · cases h
                · cases h
              · cases h
            · cases h
          · cases h
        · cases h
      · cases h
    · cases h
  · cases h
/-- A call of a function: where its result goes, which it is, its arguments. -/
def stepC (X : Ctx) (all : List Oper) (o : Oper) (env : Env) : Option (Nat × FuncId × List CV) :=
  match aguard all kn env o with
  | some true => match o.op, o.dst with
    | .call { callee := .value (.func f), args, argTypes := _ }, some d => match capsOf (aeval X env) args.toList with
      | some cvs => some (d, f, cvs)
      | none => none
    | .call { callee := .value (.tmp x), args, argTypes := _ }, some d => match aeval X env (.tmp x), capsOf (aeval X env) args.toList with
      | some (.c (.clo f caps)), some cvs => some (d, f, cvs ++ caps)
      | _, _ => none
    | _, _ => none
  | _ => none
theorem AOps.stepC {σ : St} {d : Nat} {f : FuncId} {cvs : List CV} {r : CV} (h : stepC X ops.toList o env = some (d, f, cvs)) (hq : QCalls P X f cvs r)
    (k : AOps P X ops rest ((d, .c r) :: env) σ (⟨[], []⟩ :: acc) Q) : AOps P X ops (o :: rest) env σ acc Q := by
  unfold Go.Abs.stepC at h
  split at h
  · rename_i hg
    split at h
    · rename_i f' args ats d' hop hd
      split at h
      · rename_i cvs' hc
        simp only [Option.some.injEq, Prod.mk.injEq] at h
        obtain ⟨rfl, rfl, rfl⟩ := h
        exact AOps.callq kn hg hop hd hc hq k
      · cases h
    · rename_i x args ats d' hop hd
      split at h
      · rename_i f' caps cvs' hx hc
        simp only [Option.some.injEq, Prod.mk.injEq] at h
        obtain ⟨rfl, rfl, rfl⟩ := h
        exact AOps.callc kn hg hop hd hx hc hq k
      · cases h
    · cases h
  · cases h
/-- A row's address: where it goes, the rows, which. -/
def stepI (X : Ctx) (all : List Oper) (o : Oper) (env : Env) : Option (Nat × List CV × Int) :=
  match aguard all kn env o with
  | some true => match o.op, o.dst with
    | .indexAddr t x ix, some d => match X.ti t, aeval X env x, aeval X env ix with
      | some i, some a, some (.c (.int _ z)) => match i.kind, rowsOf a with
        | .slice e, some (s, rows) => match X.ti e with
          | some j => match Nat.beq s j.size with
            | true => some (d, rows, z)
            | false => none
          | none => none
        | _, _ => none
      | _, _, _ => none
    | _, _ => none
  | _ => none
theorem AOps.stepI (hX : CtxOk P X) {σ : St} {d : Nat} {rows : List CV} {z : Int} (h : stepI X ops.toList o env = some (d, rows, z)) (m : Nat) (hm : z = m) {r : CV} (hrow : rows[m]? = some r) {cs : List CV} (hcs : r.cells = cs)
    (k : AOps P X ops rest ((d, .c (.ip cs)) :: env) σ (⟨[], []⟩ :: acc) Q) : AOps P X ops (o :: rest) env σ acc Q := by
  unfold Go.Abs.stepI at h
  split at h
  · rename_i hg
    split at h
    · rename_i t x ix d' hop hd
      split at h
      · rename_i i a k' z' hi ha hz
        split at h
        · rename_i e s rows' hk hr
          split at h
          · rename_i j hj
            split at h
            · rename_i hs
              simp only [Option.some.injEq, Prod.mk.injEq] at h
              obtain ⟨rfl, rfl, rfl⟩ := h
              exact AOps.index hX hg hop hd hi hk hj ha hr hs hz m hm hrow hcs k
            · cases h
          · cases h
        · cases h
      · cases h
    · cases h
  · cases h
end
end Go.Abs
