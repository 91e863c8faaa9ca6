/- A layer of abstract values over the model, part B: A row of operations done in whatever order the edges allow. Many looking operations at once. The rest of a function, as one judgement; calls with closed arguments. Calls whose arguments and results are closed values; new boxes. New boxes, and stores into boxes. A table of types, held against a program by the kernel. The steps of a row, as the driver takes them. Steps that change nothing of the machine: a box that is never written again becomes immutable memory; what is not needed is forgotten. What is not needed any more is forgotten. Many items at once; loops; an index that is no literal. Slices written out: new immutable memory. From a row's reading of its arguments to closed values, and from what a contract leaves to what a row asks for. Steps of a row whose outcome hangs on a fact: quotients, rests, shifts by a number that isn't known. What a row asks of the words that stand over a program: told from the words, so that nothing long is worked out. -/
import Derived.Test.YtegjgkkcgalonaaDoorLibA
import Derived.RowKit
import Derived.ReadAgain
import Derived.JoinedOf
set_option linter.unusedSimpArgs false
set_option linter.unusedVariables false
namespace Go.Abs

theorem okDraw_edges {ops : Array Oper} {fps : List Fp} (h : okDraw ops fps = true) {i : Nat} {o : Oper} (ho : ops[i]? = some o) : ∀ e ∈ edgesOf o, e < i := by
  have hi : i < ops.size := by
    rcases Nat.lt_or_ge i ops.size with h | h
    · exact h
    · simp [Array.getElem?_eq_none h] at ho
  simp only [okDraw, List.all_eq_true, List.mem_range, Bool.and_eq_true] at h
  intro e he
  have := (h i hi).1 e (by simpa [ho] using he)
  simpa [Nat.blt_eq] using this

theorem okDraw_pair {ops : Array Oper} {fps : List Fp} (h : okDraw ops fps = true) {i j : Nat} (hi : i < ops.size) (hj : j < i) :
    ((clos ops).getD i 0).testBit j = true ∨ indep ops j i (fps.getD j ⟨[], []⟩) (fps.getD i ⟨[], []⟩) = true := by
  simp only [okDraw, List.all_eq_true, List.mem_range, Bool.and_eq_true, Bool.or_eq_true] at h
  exact (h i hi).2 j hj

theorem clos_step {ops : Array Oper} {i j : Nat} {o : Oper} (ho : ops[i]? = some o) (h : ((clos ops).getD i 0).testBit j = true) :
    ∃ e ∈ edgesOf o, e = j ∨ ((clos ops).getD e 0).testBit j = true := by
  have hi : i < ops.size := by
    rcases Nat.lt_or_ge i ops.size with h | h
    · exact h
    · simp [Array.getElem?_eq_none h] at ho
  obtain ⟨e, h1, h2⟩ := closGo_get (ops.toList.map edgesOf) [] i (by simp) (by simpa using hi) j h
  refine ⟨e, ?_, h2⟩
  simp only [List.length_nil, Nat.sub_zero, List.getD, List.getElem?_map, Array.getElem?_toList, ho] at h1
  simpa using h1

/-- What comes ahead of an operation whose edges are done is done. -/
theorem clos_listed {ops : Array Oper} {fps : List Fp} (hd : okDraw ops fps = true) {listed : Array Bool}
    (hcl : ∀ i o, listed.getD i false = true → ops[i]? = some o → ∀ e ∈ edgesOf o, listed.getD e false = true) :
    ∀ (n i : Nat), i ≤ n → ∀ o, ops[i]? = some o → (∀ e ∈ edgesOf o, listed.getD e false = true) → ∀ j, ((clos ops).getD i 0).testBit j = true → listed.getD j false = true := by
  intro n
  induction n with
  | zero =>
    intro i hi o ho he j hj
    obtain ⟨e, h1, h2⟩ := clos_step ho hj
    have := okDraw_edges hd ho e h1
    omega
  | succ n ih =>
    intro i hi o ho he j hj
    obtain ⟨e, h1, h2⟩ := clos_step ho hj
    rcases h2 with rfl | h2
    · exact he _ h1
    · have hlt := okDraw_edges hd ho e h1
      have hle := he e h1
      cases hoe : ops[e]? with
      | none =>
        have hi : i < ops.size := by
          rcases Nat.lt_or_ge i ops.size with h | h
          · exact h
          · simp [Array.getElem?_eq_none h] at ho
        rw [Array.getElem?_eq_none_iff] at hoe
        omega
      | some oe => exact ih e (by omega) oe hoe (hcl e oe hle hoe) j h2

theorem ready_mem {ops : Array Oper} {listed : Array Bool} {i : Nat} : i ∈ Region.ready .any ops listed ↔
    i < ops.size ∧ listed.getD i true = false ∧ ∃ o, ops[i]? = some o ∧ ∀ e ∈ edgesOf o, listed.getD e false = true := by
  unfold Region.ready
  simp only [List.mem_filter, List.mem_range, Bool.and_eq_true, Bool.not_eq_true']
  constructor
  · rintro ⟨h1, h2, h3⟩
    refine ⟨h1, h2, ?_⟩
    cases ho : ops[i]? with
    | none => rw [ho] at h3; simp at h3
    | some o =>
      refine ⟨o, rfl, ?_⟩
      rw [ho] at h3
      simp only [Option.map_some, Option.getD_some, Array.all_eq_true'] at h3
      intro e he
      simp only [edgesOf, List.mem_filterMap] at he
      obtain ⟨ed, h4, h5⟩ := he
      split at h5
      · rename_i hb
        simp at h5; subst h5
        have := h3 ed (by simpa using h4)
        simpa [hb] using this
      · simp at h5
  · rintro ⟨h1, h2, o, ho, h3⟩
    refine ⟨h1, h2, ?_⟩
    rw [ho]
    simp only [Option.map_some, Option.getD_some, Array.all_eq_true']
    intro ed hed
    by_cases hb : Region.binds .any ed
    · have := h3 ed.on (List.mem_filterMap.2 ⟨ed, by simpa using hed, by simp [hb]⟩)
      simp [this]
    · simp [hb]

theorem LOps.any {P : Program} {X : Ctx} {β : Base} {n : Nat} {ops : Array Oper} (hd : dstsOk ops n = true) {fps : List Fp} (hok : okDraw ops fps = true) {Q : Exit → Act → World → Prop} :
    ∀ (r : List (Nat × It)) (listed : Array Bool), listed.size = ops.size →
      (∀ i, i ∈ r.map (·.1) ↔ i < ops.size ∧ listed.getD i true = false) → (r.map (·.1)).Pairwise (· < ·) →
      (∀ x ∈ r, x.2.fp = fps.getD x.1 ⟨[], []⟩) →
      (∀ i o, listed.getD i false = true → ops[i]? = some o → ∀ e ∈ edgesOf o, listed.getD e false = true) →
      ∀ {env env' : Env} {σ σ' : St}, LOps P X ops r env σ env' σ' → ∀ {g : Gh} {w : World} {a : Act}, Live X β n env σ g w a →
      (∀ g' w' a', Live X β n env' σ' g' w' a' → Q .normal a' w') → wpAny P .any ops Q r.length listed a w := by
  intro r
  generalize hlen : r.length = len
  induction len generalizing r with
  | zero =>
    intro listed hsz hmem hsort hfp hcl env env' σ σ' hO g w a hL hQ
    have : r = [] := List.eq_nil_of_length_eq_zero hlen
    subst this
    obtain ⟨rfl, rfl⟩ := hO
    refine ⟨?_, hQ g w a hL⟩
    apply List.eq_nil_iff_forall_not_mem.2
    intro i hi
    obtain ⟨h1, h2, _⟩ := ready_mem.1 hi
    have := (hmem i).2 ⟨h1, h2⟩
    simp at this
  | succ len ih =>
    intro listed hsz hmem hsort hfp hcl env env' σ σ' hO g w a hL hQ
    refine ⟨fun hnil => ?_, fun i hi => ?_⟩
    · exfalso
      cases r with
      | nil => simp at hlen
      | cons x r =>
        obtain ⟨i, it⟩ := x
        have hm := (hmem i).1 (by simp)
        have ho : ∃ o, ops[i]? = some o := ⟨ops[i]'hm.1, by simp [hm.1]⟩
        obtain ⟨o, ho⟩ := ho
        have : i ∈ Region.ready .any ops listed := by
          refine ready_mem.2 ⟨hm.1, hm.2, o, ho, fun e he => ?_⟩
          have hlt := okDraw_edges hok ho e he
          cases hle : listed.getD e true with
          | true =>
            have : e < listed.size := by omega
            simpa [Array.getD, this] using hle
          | false =>
            have := (hmem e).2 ⟨by omega, hle⟩
            simp only [List.map_cons, List.mem_cons] at this
            rcases this with h | h
            · omega
            · simp only [List.map_cons, List.pairwise_cons] at hsort
              have := hsort.1 e h
              omega
        rw [hnil] at this
        simp at this
    · obtain ⟨h1, h2, o, ho, h3⟩ := ready_mem.1 hi
      have hm := (hmem i).2 ⟨h1, h2⟩
      obtain ⟨⟨i', it⟩, hx, rfl⟩ := List.mem_map.1 hm
      simp only at *
      obtain ⟨p, q, rfl⟩ := List.append_of_mem hx
      have hidx : ∀ x ∈ p, x.1 < i' := by
        intro x hxp
        simp only [List.map_append, List.map_cons, List.pairwise_append] at hsort
        exact hsort.2.2 x.1 (List.mem_map_of_mem hxp) i' (by simp)
      have hind : ∀ x ∈ p, indep ops x.1 i' x.2.fp it.fp = true := by
        intro x hxp
        have hlt := hidx x hxp
        rcases okDraw_pair hok h1 hlt with hb | hb
        · exfalso
          have := clos_listed hok hcl i' i' (Nat.le_refl _) o ho h3 x.1 hb
          have hm2 := (hmem x.1).1 (by simp; exact .inl ⟨x.2, hxp⟩)
          have hlt2 : x.1 < listed.size := by omega
          simp [Array.getD, hlt2] at this hm2
          rw [this] at hm2; simp at hm2
        · rw [hfp x (by simp [hxp]), hfp (i', it) (by simp)]; exact hb
      obtain ⟨e1, s1, e2, s2, g1, g2, g3⟩ := LOps.front hind hO
      refine g1.wp hd hL fun g' w' a' hL' => ?_
      have hlist : ∀ k, (listed.setIfInBounds i' true).getD k true = if k = i' then true else listed.getD k true := by
        intro k
        simp only [Array.getD_eq_getD_getElem?, Array.getElem?_setIfInBounds]
        by_cases hk : i' = k
        · subst hk; simp [hsz, h1]
        · rw [if_neg hk, if_neg (fun e => hk e.symm)]
      have hlist2 : ∀ k, (listed.setIfInBounds i' true).getD k false = if k = i' then true else listed.getD k false := by
        intro k
        simp only [Array.getD_eq_getD_getElem?, Array.getElem?_setIfInBounds]
        by_cases hk : i' = k
        · subst hk; simp [hsz, h1]
        · rw [if_neg hk, if_neg (fun e => hk e.symm)]
      have hnd : i' ∉ (p ++ q).map (·.1) := by
        intro h
        simp only [List.map_append, List.mem_append] at h
        simp only [List.map_append, List.map_cons, List.pairwise_append, List.pairwise_cons] at hsort
        rcases h with h | h
        · have := hsort.2.2 i' h i' (by simp); omega
        · have := hsort.2.1.1 i' h; omega
      refine ih (p ++ q) (by simp at hlen ⊢; omega) _ (by simpa using hsz) ?_ ?_ ?_ ?_ g2 hL' ?_
      · intro k
        rw [hlist]
        have hk := hmem k
        simp only [List.map_append, List.map_cons, List.mem_append, List.mem_cons] at hk ⊢
        by_cases hki : k = i'
        · subst hki
          simp only [List.map_append, List.mem_append] at hnd
          exact ⟨fun h => absurd h hnd, fun h => by simp at h⟩
        · simp only [hki, false_or, if_false] at hk ⊢
          exact hk
      · simp only [List.map_append, List.map_cons, List.pairwise_append, List.pairwise_cons] at hsort ⊢
        exact ⟨hsort.1, hsort.2.1.2, fun a ha b hb => hsort.2.2 a ha b (by simp [hb])⟩
      · intro x hx2
        exact hfp x (by simp at hx2 ⊢; rcases hx2 with h | h <;> simp [h])
      · intro k ok hk1 hk2 e he
        rw [hlist2] at hk1 ⊢
        by_cases hke : e = i'
        · simp [hke]
        · rw [if_neg hke]
          by_cases hki : k = i'
          · subst hki
            rw [ho] at hk2; simp at hk2; subst hk2
            exact h3 e he
          · rw [if_neg hki] at hk1
            exact hcl k ok hk1 hk2 e he
      · intro g'' w'' a'' hL''
        exact hQ g'' w'' a'' (hL''.ext ⟨fun t => (g3.1 t).symm, fun k => (g3.2 k).symm⟩)

end Go.Abs

namespace Go.Abs

/-- The boxes that an operation looks into. -/
def readKeys (ρ : Operand → Option AV) : Op → List Nat
  | .load _ x => match ρ x with
    | some (.ptr k _) => [k]
    | _ => []
  | _ => []

theorem afill_congr {X : Ctx} {ρ ρ1 : Operand → Option AV} (fs : List (Nat × Nat)) : ∀ (parts : List (Nat × Operand)) (cells : List AV), (∀ p ∈ parts, ρ1 p.2 = ρ p.2) →
    afill X ρ1 fs parts cells = afill X ρ fs parts cells
  | [], _, _ => rfl
  | (i, x) :: rest, cells, h => by
    simp only [afill, h (i, x) (by simp)]
    have ih := fun c => afill_congr (X := X) fs rest c (fun p hp => h p (by simp [hp]))
    split
    · split
      · split
        · exact ih _
        · rfl
      · rfl
    · rfl

theorem capsOf_congr {ρ ρ1 : Operand → Option AV} : ∀ (l : List Operand), (∀ x ∈ l, ρ1 x = ρ x) → capsOf ρ1 l = capsOf ρ l
  | [], _ => rfl
  | x :: l, h => by
    simp only [capsOf, h x (by simp), capsOf_congr l (fun y hy => h y (by simp [hy]))]

theorem bound_congr {ρ ρ1 : Operand → Option AV} (o : Option Operand) (h : ∀ x, o = some x → ρ1 x = ρ x) : bound ρ1 o = bound ρ o := by
  cases o with
  | none => rfl
  | some x => simp only [bound, h x rfl]

theorem apure_congr {X : Ctx} {boxes boxes1 : List (Nat × List AV)} {ρ ρ1 : Operand → Option AV} {op : Op} (h : ∀ x ∈ op.operands.toList, ρ1 x = ρ x)
    (hb : ∀ k ∈ readKeys ρ op, getK k boxes1 = getK k boxes) : apure X boxes1 ρ1 op = apure X boxes ρ op := by
  cases op with
  | move x => exact h x (by simp [Op.operands])
  | assign x => exact h x (by simp [Op.operands])
  | pick c a b => simp only [apure, h c (by simp [Op.operands]), h a (by simp [Op.operands]), h b (by simp [Op.operands])]
  | load t x =>
    have hx := h x (by simp [Op.operands])
    simp only [apure, hx]
    simp only [readKeys] at hb
    cases X.ti t with
    | none => rfl
    | some i =>
      cases hr : ρ x with
      | none => rfl
      | some a =>
        rw [hr] at hb
        cases a with
        | ptr k o => simp only [hb k (by simp)]
        | c v => cases v <;> rfl
        | _ => rfl
  | nilCheck x => simp only [apure, h x (by simp [Op.operands])]
  | binOp op t x y yt => simp only [apure, h x (by simp [Op.operands]), h y (by simp [Op.operands])]
  | unOp op t x => simp only [apure, h x (by simp [Op.operands])]
  | convert s d x => simp only [apure, h x (by simp [Op.operands])]
  | fieldAddr t x f => simp only [apure, h x (by simp [Op.operands])]
  | field t x f => simp only [apure, h x (by simp [Op.operands])]
  | indexAddr t x i => simp only [apure, h x (by simp [Op.operands]), h i (by simp [Op.operands])]
  | index t x i => simp only [apure, h x (by simp [Op.operands]), h i (by simp [Op.operands])]
  | extract x n => simp only [apure, h x (by simp [Op.operands])]
  | build t parts =>
    have := fun fs z => afill_congr (X := X) fs parts.toList z (fun p hp => h p.2 (by
      simp only [Op.operands, List.mem_map]; exact ⟨p, hp, rfl⟩))
    simp only [apure, this]
  | slice t x lo hi mx =>
    have h1 := bound_congr lo (fun y hy => h y (by subst hy; simp [Op.operands]))
    have h2 := bound_congr hi (fun y hy => h y (by subst hy; simp [Op.operands]))
    have h3 := bound_congr mx (fun y hy => h y (by subst hy; simp [Op.operands]))
    simp only [apure, h x (by simp [Op.operands]), h1, h2, h3]
  | makeFunc fn first caps =>
    cases fn with
    | func f =>
      have := capsOf_congr caps.toList (fun y hy => h y (by simp only [Op.operands, Array.toList_append, List.mem_append]; exact .inr hy))
      simp only [apure, this]
    | _ => rfl
  | call c =>
    obtain ⟨callee, args, argTypes⟩ := c
    cases callee with
    | builtin b =>
      have hargs : ∀ x ∈ args.toList, ρ1 x = ρ x := fun x hx => h x (by simpa [Op.operands, Call.operands] using hx)
      have hmap : args.toList.map ρ1 = args.toList.map ρ := List.map_congr_left hargs
      cases b with
      | len =>
        simp only [apure]
        cases hl : args.toList with
        | nil => rfl
        | cons x l =>
          rw [hl] at hargs
          have := hargs x (by simp)
          cases l with
          | cons y l => rfl
          | nil =>
            cases argTypes.toList with
            | nil => rfl
            | cons t l' =>
              cases l' with
              | nil => simp only [this]
              | cons _ _ => rfl
      | min => simp only [apure, hmap]
      | max => simp only [apure, hmap]
      | _ => rfl
    | _ => rfl
  | _ => rfl

theorem OpSem.pure {P : Program} {X : Ctx} (hX : CtxOk P X) {o : Oper} {env : Env} {σ : St} {v : AV} (h : apure X σ.boxes (aeval X env) o.op = some v) :
    OpSem P X o env σ v (fun σ => σ) ⟨readKeys (aeval X env) o.op, []⟩ := by
  intro env1 σ1 w g a next Q h1 h2 hinv hglob henv hnext
  have h' : apure X σ1.boxes (aeval X env1) o.op = some v := by
    rw [apure_congr h1 (fun k hk => (h2 k (.inl hk)).1)]; exact h
  obtain ⟨u, r1, r2⟩ := apure_ok (P := P) (w := w) (g := g) hX hinv.imm (fun k cs e => by
    obtain ⟨b, b1, _, _, b2⟩ := hinv.box k cs e; exact ⟨b, b1, b2⟩) (ev := a.eval) (fun x v hx => aeval_ok henv hglob hx) h'
  unfold Oper.wp
  rw [r1, Oper.upon_value]
  exact hnext u w g r2 hinv (Keep.refl _ _ _) (Gh.le.refl _)

/-- What is left of a row of operations, and what holds behind it. The feet of what is done are kept, the last first. -/
def AOps (P : Program) (X : Ctx) (ops : Array Oper) (rest : List Oper) (env : Env) (σ : St) (acc : List Fp) (Q : Env → St → List Fp → Prop) : Prop :=
  ∀ i, ops.toList.drop i = rest → ∃ (its : List It) (env' : Env) (σ' : St), its.length = rest.length ∧ LOps P X ops ((List.range' i rest.length).zip its) env σ env' σ' ∧
    Q env' σ' (acc.reverse ++ its.map It.fp)

section
variable {P : Program} {X : Ctx} {ops : Array Oper} {i : Nat} {o : Oper} {rest : List Oper} {env : Env} {σ : St} {acc : List Fp} {Q : Env → St → List Fp → Prop}

theorem AOps.nil (h : Q env σ acc.reverse) : AOps P X ops [] env σ acc Q :=
  fun _ _ => ⟨[], env, σ, rfl, ⟨rfl, rfl⟩, by simpa using h⟩

theorem drop_next {ops : Array Oper} (h : ops.toList.drop i = o :: rest) : ops[i]? = some o ∧ ops.toList.drop (i + 1) = rest := by
  constructor
  · have := drop_head h; simpa using this
  · have := congrArg List.tail h
    simpa [List.tail_drop] using this

theorem AOps.step {v : AV} {eff : St → St} {fp : Fp} (hg : GuardIn ops o env) (hs : OpSem P X o env σ v eff fp) (hE : EffOk eff fp)
    (k : AOps P X ops rest (putE o.dst v env) (eff σ) (fp :: acc) Q) : AOps P X ops (o :: rest) env σ acc Q := by
  intro i h
  obtain ⟨ho, hr⟩ := drop_next h
  obtain ⟨its, env', σ', h1, h2, h3⟩ := k (i + 1) hr
  refine ⟨⟨true, v, eff, fp⟩ :: its, env', σ', by simp [h1], ?_, by simpa using h3⟩
  simp only [List.length_cons, List.range'_succ, List.zip_cons_cons]
  exact ⟨_, _, ⟨o, ho, rfl, rfl, hE, .inr ⟨rfl, hg, hs⟩⟩, h2⟩

theorem AOps.skip (hg : GuardOut ops o env) (k : AOps P X ops rest (putE o.dst (.c .undef) env) σ (⟨[], []⟩ :: acc) Q) : AOps P X ops (o :: rest) env σ acc Q := by
  intro i h
  obtain ⟨ho, hr⟩ := drop_next h
  obtain ⟨its, env', σ', h1, h2, h3⟩ := k (i + 1) hr
  refine ⟨It.skip :: its, env', σ', by simp [h1], ?_, by simpa [It.skip] using h3⟩
  simp only [List.length_cons, List.range'_succ, List.zip_cons_cons]
  exact ⟨_, _, ⟨o, ho, rfl, rfl, EffOk.id _, .inl ⟨rfl, hg⟩⟩, h2⟩

/-- May an operation be evaluated with others, without a look at its operands? -/
def simple : Op → Bool
  | .indexAddr _ _ _ => false
  | .index _ _ _ => false
  | .slice _ _ _ _ _ => false
  | .binOp .quo _ _ (.tmp _) _ => false
  | .binOp .rem _ _ (.tmp _) _ => false
  | .binOp .shl _ _ (.tmp _) _ => false
  | .binOp .shr _ _ (.tmp _) _ => false
  | _ => true

def mem (k : Nat) : List Nat → Bool
  | [] => false
  | x :: l => match Nat.beq x k with
    | true => true
    | false => mem k l

/-- What an operation's guard says: to be done, to be passed by, or not known. -/
def aguard (all : List Oper) (kn : List Nat) (env : Env) (o : Oper) : Option Bool :=
  match o.guard with
  | none => some true
  | some (j, want) => match mem j kn with
    | false => none
    | true => match nth all j with
      | none => none
      | some oj => match oj.dst with
        | none => none
        | some d => match getK d env with
          | some (.c (.bool b)) => match want with
            | true => some b
            | false => some (!b)
          | some (.c .undef) => some false
          | _ => none

/-- The feet of an operation that only looks, put ahead of others. -/
def footed (ks : List Nat) (acc : List Fp) : List Fp := match ks with
  | [] => ⟨[], []⟩ :: acc
  | k :: l => ⟨k :: l, []⟩ :: acc

/-- Where a row of operations has come to. -/
inductive ARes where
  | at (rest : List Oper) (env : Env) (acc : List Fp)
  | stuck

/-- Operations that only look, one behind the other, up to the first that does more, or whose guard is not known, or at most so many. -/
def arun (X : Ctx) (all : List Oper) (boxes : List (Nat × List AV)) (kn : List Nat) : Nat → List Oper → Env → List Fp → ARes
  | 0, rest, env, acc => .at rest env acc
  | _ + 1, [], env, acc => .at [] env acc
  | n + 1, o :: rest, env, acc => match simple o.op with
    | false => .at (o :: rest) env acc
    | true => match aguard all kn env o with
      | none => .at (o :: rest) env acc
      | some false => match o.dst with
        | some d => arun X all boxes kn n rest ((d, .c .undef) :: env) (⟨[], []⟩ :: acc)
        | none => arun X all boxes kn n rest env (⟨[], []⟩ :: acc)
      | some true => match apure X boxes (aeval X env) o.op with
        | none => .at (o :: rest) env acc
        | some v => match o.dst, readKeys (aeval X env) o.op with
          | some d, [] => arun X all boxes kn n rest ((d, v) :: env) (⟨[], []⟩ :: acc)
          | some d, k :: l => arun X all boxes kn n rest ((d, v) :: env) (⟨k :: l, []⟩ :: acc)
          | none, ks => arun X all boxes kn n rest env (⟨ks, []⟩ :: acc)

theorem aguard_ok {kn : List Nat} {b : Bool} (h : aguard ops.toList kn env o = some b) : if b then GuardIn ops o env else GuardOut ops o env := by
  unfold aguard at h
  unfold GuardIn GuardOut
  split at h
  · rename_i hg; simp at h; subst h; simp [hg]
  · rename_i j want hg
    simp only [hg]
    split at h
    · simp at h
    · split at h
      · simp at h
      · rename_i oj hoj
        split at h
        · simp at h
        · rename_i d hd
          have hs : slotOf ops j = some d := by
            rw [nth_eq] at hoj
            simp only [slotOf]
            rw [← Array.getElem?_toList, hoj]; simp [hd]
          split at h
          · rename_i b' hb'
            cases b' <;> cases want <;> simp at h <;> subst h <;> simp [hs, hb']
          · rename_i hb'
            simp at h; subst h
            simp [hs, hb']
          · simp at h

theorem AOps.run (hX : CtxOk P X) (n : Nat) (kn : List Nat) : ∀ {rest : List Oper} {env : Env} {acc : List Fp} {rest' : List Oper} {env' : Env} {acc' : List Fp},
    arun X ops.toList σ.boxes kn n rest env acc = .at rest' env' acc' → AOps P X ops rest' env' σ acc' Q → AOps P X ops rest env σ acc Q := by
  induction n with
  | zero => intro rest env acc rest' env' acc' h k; simp [arun] at h; obtain ⟨rfl, rfl, rfl⟩ := h; exact k
  | succ n ih =>
    intro rest env acc rest' env' acc' h k
    cases rest with
    | nil => simp [arun] at h; obtain ⟨rfl, rfl, rfl⟩ := h; exact k
    | cons o rest =>
      have stop : ARes.at (o :: rest) env acc = .at rest' env' acc' → AOps P X ops (o :: rest) env σ acc Q := by
        intro h; simp at h; obtain ⟨rfl, rfl, rfl⟩ := h; exact k
      simp only [arun] at h
      split at h
      · exact stop h
      · split at h
        · exact stop h
        · rename_i hg
          have := aguard_ok hg
          simp at this
          split at h
          · rename_i d hd
            refine AOps.skip this ?_
            rw [hd]
            exact ih h k
          · rename_i hd
            refine AOps.skip this ?_
            rw [hd]
            exact ih h k
        · rename_i hg
          have := aguard_ok hg
          simp at this
          split at h
          · exact stop h
          · rename_i v hv
            have key : AOps P X ops rest (putE o.dst v env) σ (⟨readKeys (aeval X env) o.op, []⟩ :: acc) Q → AOps P X ops (o :: rest) env σ acc Q :=
              AOps.step this (OpSem.pure hX hv) (EffOk.id _)
            split at h
            · rename_i d hd hk
              rw [hd, hk] at key; exact key (ih h k)
            · rename_i d k' l hd hk
              rw [hd, hk] at key; exact key (ih h k)
            · rename_i hd
              rw [hd] at key; exact key (ih h k)

/-- Likewise, but the first is done in any case. -/
def arunP (X : Ctx) (all : List Oper) (boxes : List (Nat × List AV)) (kn : List Nat) (n : Nat) (rest : List Oper) (env : Env) (acc : List Fp) : ARes :=
  match rest with
  | [] => .stuck
  | o :: rest => match aguard all kn env o with
    | none => .stuck
    | some false => match o.dst with
      | some d => arun X all boxes kn n rest ((d, .c .undef) :: env) (⟨[], []⟩ :: acc)
      | none => arun X all boxes kn n rest env (⟨[], []⟩ :: acc)
    | some true => match apure X boxes (aeval X env) o.op with
      | none => .stuck
      | some v => match o.dst, readKeys (aeval X env) o.op with
        | some d, [] => arun X all boxes kn n rest ((d, v) :: env) (⟨[], []⟩ :: acc)
        | some d, k :: l => arun X all boxes kn n rest ((d, v) :: env) (⟨k :: l, []⟩ :: acc)
        | none, ks => arun X all boxes kn n rest env (⟨ks, []⟩ :: acc)

theorem AOps.runP (hX : CtxOk P X) (n : Nat) (kn : List Nat) {env : Env} {acc : List Fp} {rest' : List Oper} {env' : Env} {acc' : List Fp}
    (h : arunP X ops.toList σ.boxes kn n rest env acc = .at rest' env' acc') (k : AOps P X ops rest' env' σ acc' Q) : AOps P X ops rest env σ acc Q := by
  unfold arunP at h
  split at h
  · simp at h
  · rename_i o rest
    split at h
    · simp at h
    · rename_i hg
      have := aguard_ok hg
      simp at this
      refine AOps.skip this ?_
      split at h <;> rename_i hd <;> rw [hd] <;> exact AOps.run hX n kn h k
    · rename_i hg
      have := aguard_ok hg
      simp at this
      split at h
      · simp at h
      · rename_i v hv
        have key : AOps P X ops rest (putE o.dst v env) σ (⟨readKeys (aeval X env) o.op, []⟩ :: acc) Q → AOps P X ops (o :: rest) env σ acc Q :=
          AOps.step this (OpSem.pure hX hv) (EffOk.id _)
        split at h
        · rename_i d hd hk
          rw [hd, hk] at key; exact key (AOps.run hX n kn h k)
        · rename_i d k' l hd hk
          rw [hd, hk] at key; exact key (AOps.run hX n kn h k)
        · rename_i hd
          rw [hd] at key; exact key (AOps.run hX n kn h k)

/-- How many operations follow that have no guard, or the one that is known. -/
def runLen (gj : Option Nat) : List Oper → Nat
  | [] => 1
  | o :: rest => match o.guard with
    | none => runLen gj rest + 1
    | some (j, _) => match gj with
      | some j0 => match Nat.beq j j0 with
        | true => runLen gj rest + 1
        | false => 0
      | none => 0
def runLenP : List Oper → Nat
  | [] => 0
  | o :: rest => match o.guard with
    | none => runLen none rest
    | some (j, _) => runLen (some j) rest

theorem AOps.runS (hX : CtxOk P X) (kn : List Nat) {rest : List Oper} {env : Env} {acc : List Fp} {rest' : List Oper} {env' : Env} {acc' : List Fp}
    (h : arunP X ops.toList σ.boxes kn (runLenP rest) rest env acc = .at rest' env' acc') (k : AOps P X ops rest' env' σ acc' Q) : AOps P X ops rest env σ acc Q := AOps.runP hX _ kn h k

/-- A guard that is not known: both ways. -/
theorem AOps.split {j d : Nat} {want b : Bool} (hg : o.guard = some (j, want)) (hs : slotOf ops j = some d) (hb : getK d env = some (.c (.bool b)))
    (h1 : b = true → AOps P X ops (o :: rest) env σ acc Q) (h2 : b = false → AOps P X ops (o :: rest) env σ acc Q) : AOps P X ops (o :: rest) env σ acc Q := by
  cases b
  · exact h2 rfl
  · exact h1 rfl

end
end Go.Abs

namespace Go.Abs

/-- The frame of a function, but for what turns. -/
def top (f : FuncId) : Frame := { (default : Frame) with fn := f, kind := .normal }

/-- Begun where the items stand, with slots and memory as told, the function comes to an ending that R tells. -/
def AK (P : Program) (X : Ctx) (f : FuncId) (n : Nat) (β : Base) (R : Ending → World → Prop) (K : List Item) (env : Env) (σ : St) : Prop :=
  ∀ (g : Gh) (w : World) (a : Act) (cs : List Frame), Live X β n env σ g w a →
    ∃ e w' fr, R e w' ∧ Comes P (lone ((top f).at a K) cs w) (lone fr cs w') e ∧ fr.fn = f ∧ fr.leaving P w' e

section
variable {P : Program} {X : Ctx} {f : FuncId} {n : Nat} {β : Base} {R : Ending → World → Prop} {K : List Item} {env : Env} {σ : St}

theorem AK.go {K' : List Item} (hs : ∀ (a : Act) (cs : List Frame) (w : World), Steps P (lone ((top f).at a K) cs w) (lone ((top f).at a K') cs w)) (h : AK P X f n β R K' env σ) : AK P X f n β R K env σ :=
  fun g w a cs hL => let ⟨e, w', fr, h1, h2, h3, h4⟩ := h g w a cs hL; ⟨e, w', fr, h1, h2.of_steps (hs a cs w), h3, h4⟩

theorem AK.seq {x y : Code} (h : AK P X f n β R (.code x :: .code y :: K) env σ) : AK P X f n β R (.code (.seq x y) :: K) env σ :=
  AK.go (fun _ _ _ => .one step_seq) h
theorem AK.skip (h : AK P X f n β R K env σ) : AK P X f n β R (.code .skip :: K) env σ :=
  AK.go (fun _ _ _ => .one step_skip) h
theorem AK.block {id : Nat} {c : Code} (h : AK P X f n β R (.code c :: .inBlock id :: K) env σ) : AK P X f n β R (.code (.block id c) :: K) env σ :=
  AK.go (fun _ _ _ => .one step_block) h
theorem AK.inBlock {id : Nat} (h : AK P X f n β R K env σ) : AK P X f n β R (.inBlock id :: K) env σ :=
  AK.go (fun _ _ _ => .one step_inBlock) h
theorem AK.loop {c : Code} (h : AK P X f n β R (.code c :: .inLoop c :: K) env σ) : AK P X f n β R (.code (.loop c) :: K) env σ :=
  AK.go (fun _ _ _ => .one step_loop) h
theorem AK.inLoop {c : Code} (h : AK P X f n β R (.code c :: .inLoop c :: K) env σ) : AK P X f n β R (.inLoop c :: K) env σ :=
  AK.go (fun _ _ _ => .one step_inLoop) h
theorem AK.exit {id : Nat} {K' : List Item} (e : exitTo id K = some K') (h : AK P X f n β R K' env σ) : AK P X f n β R (.code (.exit id) :: K) env σ :=
  AK.go (fun _ _ _ => .one (step_exit e)) h

theorem AK.cond {c : Operand} {x y : Code} {b : Bool} (hc : aeval X env c = some (.c (.bool b))) (h : AK P X f n β R (.code (if b then x else y) :: K) env σ) :
    AK P X f n β R (.code (.cond c x y) :: K) env σ := by
  intro g w a cs hL
  obtain ⟨e, w', fr, h1, h2, h3, h4⟩ := h g w a cs hL
  have := aeval_ok hL.env hL.glob hc
  simp only [RelA, Rel] at this
  exact ⟨e, w', fr, h1, h2.of_steps (.one (step_cond this)), h3, h4⟩
theorem AK.condT {c : Operand} {x y : Code} (hc : aeval X env c = some (.c (.bool true))) (h : AK P X f n β R (.code x :: K) env σ) :
    AK P X f n β R (.code (.cond c x y) :: K) env σ := AK.cond hc (by simpa using h)
theorem AK.condF {c : Operand} {x y : Code} (hc : aeval X env c = some (.c (.bool false))) (h : AK P X f n β R (.code y :: K) env σ) :
    AK P X f n β R (.code (.cond c x y) :: K) env σ := AK.cond hc (by simpa using h)
theorem AK.condS {c : Operand} {x y : Code} {b : Bool} (hc : aeval X env c = some (.c (.bool b))) (h1 : b = true → AK P X f n β R (.code x :: K) env σ)
    (h2 : b = false → AK P X f n β R (.code y :: K) env σ) : AK P X f n β R (.code (.cond c x y) :: K) env σ := by
  cases b
  · exact AK.condF hc (h2 rfl)
  · exact AK.condT hc (h1 rfl)

/-- A region: its operations are gone through in the text's order; where the order is drawn, it does not matter. -/
theorem AK.region (hm : P.follows .mixedOrders = true) {id : Nat} {ops : Array Oper} {draw : Bool} (hd : dstsOk ops n = true)
    (h : AOps P X ops ops.toList env σ [] (fun env' σ' fps => (draw = true → okDraw ops fps = true) ∧ AK P X f n β R K env' σ')) :
    AK P X f n β R (.code (.region id ops draw) :: K) env σ := by
  obtain ⟨its, env', σ', hlen, hops, hdr, hK⟩ := h 0 (by simp)
  intro g w a cs hL
  have hlen' : its.length = ops.size := by simpa using hlen
  rw [List.reverse_nil, List.nil_append] at hdr
  have hmap : (((List.range' 0 ops.toList.length).zip its).map (·.1)) = List.range ops.size := by
    rw [List.map_fst_zip (by simp [hlen'])]; simp [List.range_eq_range']
  have hwp : (Code.region id ops draw).wp P (fun e a' w' => e = .normal ∧ ∃ g', Live X β n env' σ' g' w' a') a w := by
    cases draw with
    | false =>
      apply wp_region
      rw [← hmap]
      exact LOps.wp hd hops hL fun g' w' a' hL' => ⟨rfl, g', hL'⟩
    | true =>
      apply wp_region_any hm
      have hL2 : Live X β n env σ g { w with drawn := w.drawn + 1 } a :=
        ⟨⟨hL.inv.imm, fun k cs e => by
            obtain ⟨b, b1, b2, b3, b4⟩ := hL.inv.box k cs e
            exact ⟨b, b1, b2, b3, CellsW.of_same (w := w) (w' := { w with drawn := w.drawn + 1 }) (fun o => ⟨rfl, rfl⟩) b4⟩,
          hL.inv.boxinj, hL.inv.tok, hL.inv.tokinj, hL.inv.used, hL.inv.room⟩, hL.glob, hL.env,
          hL.frame.trans ⟨rfl, rfl, rfl, Nat.le_refl _, fun _ _ _ => rfl, fun _ _ _ _ => ⟨rfl, rfl⟩, Imm.le.refl _, fun _ _ _ h => .inl h, fun k cs b h1 h2 => .inr ⟨k, cs, h1, h2⟩,
            fun k n b lo hi h1 h2 => .inr ⟨k, n, lo, hi, h1, h2, Nat.le_refl _, Nat.le_refl _⟩, fun _ _ h => ⟨h, rfl, rfl⟩⟩, hL.size, hL.defers⟩
      have hl : ((List.range' 0 ops.toList.length).zip its).length = ops.size := by simp [hlen']
      have hany := LOps.any hd (hdr rfl) ((List.range' 0 ops.toList.length).zip its) (Array.replicate ops.size false) (by simp) ?_ ?_ ?_ ?_ hops hL2
        (Q := fun e a' w' => e = .normal ∧ ∃ g', Live X β n env' σ' g' w' a') fun g' w' a' hL' => ⟨rfl, g', hL'⟩
      · rw [hl] at hany; exact hany
      · intro i
        rw [hmap]
        simp only [List.mem_range]
        constructor
        · intro hi; exact ⟨hi, by simp [Array.getD, hi]⟩
        · exact fun h => h.1
      · rw [hmap]; exact List.pairwise_lt_range
      · intro x hx
        obtain ⟨k, hk⟩ := List.getElem?_of_mem hx
        rw [List.getElem?_zip_eq_some] at hk
        obtain ⟨k1, k2⟩ := hk
        have k3 : k = x.1 := by
          have hlt : k < ops.toList.length := by
            have := (List.getElem?_eq_some_iff.1 k1).1; simpa using this
          rw [List.getElem?_range' hlt] at k1
          simpa using k1
        subst k3
        simp [List.getD, k2]
      · intro i o hi
        exfalso
        simp only [Array.getD] at hi
        split at hi
        · simp at hi
        · simp at hi
  obtain ⟨e, a', w', ⟨rfl, g', hL'⟩, harr⟩ := hwp (top f) K cs
  obtain ⟨e, w'', fr, h1, h2, h3, h4⟩ := hK g' w' a' cs hL'
  exact ⟨e, w'', fr, h1, h2.of_steps harr, h3, h4⟩

/-- The end of a region whose order is not drawn, and of one whose order is. -/
theorem AOps.done {ops : Array Oper} {acc : List Fp} (h : AK P X f n β R K env σ) :
    AOps P X ops [] env σ acc (fun env' σ' fps => (false = true → okDraw ops fps = true) ∧ AK P X f n β R K env' σ') :=
  AOps.nil ⟨(fun h => by simp at h), h⟩
theorem AOps.drawn {ops : Array Oper} {acc : List Fp} (hok : okDraw ops acc.reverse = true) (h : AK P X f n β R K env σ) :
    AOps P X ops [] env σ acc (fun env' σ' fps => (true = true → okDraw ops fps = true) ∧ AK P X f n β R K env' σ') :=
  AOps.nil ⟨fun _ => hok, h⟩

/-- What stands in the result variables. -/
def ares (X : Ctx) (boxes : List (Nat × List AV)) (env : Env) : List ResultVar → Option (List AV)
  | [] => some []
  | .tmp t :: l => match getK t env, ares X boxes env l with
    | some a, some r => some (a :: r)
    | _, _ => none
  | .cell t ty :: l => match apure X boxes (aeval X env) (.load ty (.tmp t)), ares X boxes env l with
    | some a, some r => some (a :: r)
    | _, _ => none

def aresult (X : Ctx) (boxes : List (Nat × List AV)) (env : Env) (rs : List ResultVar) : Option AV :=
  match ares X boxes env rs with
  | some [a] => some a
  | some (a :: b :: l) => some (.tup (a :: b :: l))
  | _ => none

def resOf (tmps : Array Value) : ResultVar → Sem Value
  | .tmp t => pure (tmps.getD t undef)
  | .cell b t => do loadVar t (← asAddr (tmps.getD b undef))

theorem results_eq (fn : Func) (tmps : Array Value) : results fn tmps = (do
    let vs ← fn.results.mapM (resOf tmps)
    pure (if h : vs.size = 1 then vs[0] else .tuple vs)) := by
  unfold results
  congr

theorem asAddr_some (ad : Addr) : asAddr (.pointer (some ad)) = pure ad := rfl

theorem ares_ok (hX : CtxOk P X) {g : Gh} {w : World} {a : Act} (hL : Live X β n env σ g w a) : ∀ {rs : List ResultVar} {l : List AV}, ares X σ.boxes env rs = some l →
    ∃ vs : List Value, (rs.mapM (resOf a.tmps)).run P w = .ok vs w ∧ RelAL g l vs
  | [], l, h => by simp [ares] at h; subst h; exact ⟨[], by simp, by simp [RelAL]⟩
  | .tmp t :: rs, l, h => by
    simp only [ares] at h
    split at h
    · rename_i x r h1 h2
      simp at h; subst h
      obtain ⟨vs, e1, e2⟩ := ares_ok hX hL h2
      refine ⟨a.tmps.getD t undef :: vs, ?_, by simp only [RelAL]; exact ⟨_, _, rfl, hL.env t x h1, e2⟩⟩
      simp only [List.mapM_cons, resOf, Sem.run_bind, Sem.run_pure, Result.andThen_ok]
      simp only [show (List.mapM (resOf a.tmps) rs).run P w = .ok vs w from e1]; rfl
    · simp at h
  | .cell t ty :: rs, l, h => by
    simp only [ares] at h
    split at h
    · rename_i x r h1 h2
      simp at h; subst h
      obtain ⟨vs, e1, e2⟩ := ares_ok hX hL h2
      obtain ⟨u, r1, r2⟩ := apure_ok (P := P) (w := w) (g := g) hX hL.inv.imm (fun k cs e => by
        obtain ⟨b, b1, _, _, b2⟩ := hL.inv.box k cs e; exact ⟨b, b1, b2⟩) (ev := a.eval) (fun x v hx => aeval_ok hL.env hL.glob hx) (o := ⟨none, .load ty (.tmp t), 0, "", #[], none⟩) h1
      simp only [execOp, Act.eval, Instr.loadAt] at r1
      have r3 : ∃ ad, a.tmps.getD t undef = .pointer (some ad) ∧ (loadVar ty ad).run P w = .ok u w := by
        cases hv : a.tmps.getD t undef with
        | pointer p =>
          cases p with
          | none => rw [hv] at r1; simp [Instr.sureAddr] at r1
          | some ad =>
            refine ⟨ad, rfl, ?_⟩
            rw [hv] at r1
            simp only [Instr.sureAddr, Sem.run_bind, Sem.run_pure, Result.andThen_ok] at r1
            cases hr : (loadVar ty ad).run P w with
            | ok u' w' => rw [hr] at r1; simp at r1; obtain ⟨rfl, rfl⟩ := r1; rfl
            | halt _ _ => rw [hr] at r1; simp at r1
        | _ => rw [hv] at r1; simp [Instr.sureAddr] at r1
      obtain ⟨ad, r4, r5⟩ := r3
      refine ⟨u :: vs, ?_, by simp only [RelAL]; exact ⟨_, _, rfl, r2, e2⟩⟩
      simp only [List.mapM_cons, resOf, Sem.run_bind, r4, asAddr_some, Sem.run_pure, Result.andThen_ok, r5]
      simp only [show (List.mapM (resOf a.tmps) rs).run P w = .ok vs w from e1]; rfl
    · simp at h

theorem aresult_ok (hX : CtxOk P X) {fn : Func} {g : Gh} {w : World} {a : Act} (hL : Live X β n env σ g w a) {r : AV} (h : aresult X σ.boxes env fn.results.toList = some r) :
    ∃ u, (results fn a.tmps).run P w = .ok u w ∧ RelA g r u := by
  unfold aresult at h
  have key : ∀ l, ares X σ.boxes env fn.results.toList = some l → ∃ vs : List Value, (fn.results.mapM (resOf a.tmps)).run P w = .ok vs.toArray w ∧ RelAL g l vs := by
    intro l hl
    obtain ⟨vs, e1, e2⟩ := ares_ok hX hL hl
    refine ⟨vs, ?_, e2⟩
    rw [Array.mapM_eq_mapM_toList]
    simp only [Sem.run_map, e1, Result.andThen_ok]
  split at h
  · rename_i x hl
    simp at h; subst h
    obtain ⟨vs, e1, e2⟩ := key _ hl
    simp only [RelAL] at e2
    obtain ⟨u, us, rfl, e3, rfl⟩ := e2
    refine ⟨u, ?_, e3⟩
    rw [results_eq, Sem.run_bind, e1]
    simp
  · rename_i x y l hl
    simp at h; subst h
    obtain ⟨vs, e1, e2⟩ := key _ hl
    have e2' := e2
    simp only [RelAL] at e2'
    obtain ⟨u, us, rfl, e3, u2, us2, rfl, e4, e5⟩ := e2'
    refine ⟨.tuple (u :: u2 :: us2).toArray, ?_, by simp only [RelA]; exact ⟨_, rfl, e2, by simp⟩⟩
    rw [results_eq, Sem.run_bind, e1]
    simp
  · simp at h

/-- Leaving with a result. -/
theorem AK.ret (hX : CtxOk P X) {fn : Func} (hf : P.funcs[f]? = some fn) {r : AV} (hr : aresult X σ.boxes env fn.results.toList = some r)
    (h : ∀ g w u, RelA g r u → Inv w g σ → GlobOk X g.G → Keep β.w β.g β.σ w g σ → R (.returned u) w) : AK P X f n β R (.code .ret :: K) env σ := by
  intro g w a cs hL
  obtain ⟨u, h1, h2⟩ := aresult_ok hX hL hr
  exact ⟨.returned u, w, _, h g w u h2 hL.inv hL.glob hL.frame, .one step_ret, rfl, rfl, hL.defers, rfl, fn, hf, h1⟩

theorem AK.fin (hX : CtxOk P X) {fn : Func} (hf : P.funcs[f]? = some fn) {r : AV} (hr : aresult X σ.boxes env fn.results.toList = some r)
    (h : ∀ g w u, RelA g r u → Inv w g σ → GlobOk X g.G → Keep β.w β.g β.σ w g σ → R (.returned u) w) : AK P X f n β R [] env σ := by
  intro g w a cs hL
  obtain ⟨u, h1, h2⟩ := aresult_ok hX hL hr
  exact ⟨.returned u, w, _, h g w u h2 hL.inv hL.glob hL.frame, .one step_end, rfl, rfl, hL.defers, rfl, fn, hf, h1⟩

end

end Go.Abs

namespace Go.Abs

/-- The function has a text, and is entered when it is called. -/
def Enters (P : Program) (f : FuncId) : Prop := ∀ (args : Array Value) (w : World), (callFunc f args).run P w = .ok (.enter f args) w

/-- What a call leaves: what stood is as it stood; there may be more immutable memory. -/
structure Grows (w : World) (G : Imm) (w' : World) (G' : Imm) : Prop where
  os : w'.os = w.os
  tape : w'.tape = w.tape
  output : w'.output = w.output
  size : w.heap.size ≤ w'.heap.size
  block : ∀ b, b < w.heap.size → w'.heap[b]? = w.heap[b]?
  le : G.le G'
  new : ∀ b o v, G' b o = some v → G b o = some v ∨ w.heap.size ≤ b
  imm : ∀ b o v, G' b o = some v → w'.cell? ⟨b, o, none⟩ = some v

/-- A call of closed arguments gives a closed result and changes nothing. -/
def QCalls (P : Program) (X : Ctx) (f : FuncId) (args : List CV) (r : CV) : Prop :=
  Enters P f ∧ ∀ (G : Imm) (w : World) (vs : List Value), (∀ b o v, G b o = some v → w.cell? ⟨b, o, none⟩ = some v) → GlobOk X G → RelL G args vs →
    Calls P f vs.toArray w fun e w' => ∃ u G', e = .returned u ∧ Rel G' r u ∧ Grows w G w' G'

theorem Grows.kept {w w' : World} {G G' : Imm} (h : Grows w G w' G') (b o : Nat) (hb : b < w.heap.size) :
    w'.cell? ⟨b, o, none⟩ = w.cell? ⟨b, o, none⟩ ∧ w'.frozen? ⟨b, o, none⟩ = w.frozen? ⟨b, o, none⟩ := by
  have := h.block b hb
  constructor
  · simp only [World.cell?, this]
  · simp only [World.frozen?, this]

/-- To prove such a contract: go through the text. -/
theorem QCalls.of {P : Program} {X : Ctx} {f : FuncId} {fn : Func} {c : Code} {args : List CV} {r : CV} (hf : P.funcs[f]? = some fn) (hb : fn.body = some c) (he : Enters P f)
    (hn : args.length ≤ fn.ntmps) (env : Env) (henv : env = (args.zipIdx.map fun (v, i) => (i, AV.c v)))
    (h : ∀ β, β.σ = ⟨[], [], []⟩ → AK P X f fn.ntmps β (fun e w' => ∃ u g', e = .returned u ∧ Rel g'.G r u ∧ Keep β.w β.g β.σ w' g' ⟨[], [], []⟩ ∧ ∀ b o v, g'.G b o = some v → w'.cell? ⟨b, o, none⟩ = some v) [.code c] env ⟨[], [], []⟩) :
    QCalls P X f args r := by
  refine ⟨he, fun G w vs himm hglob hrel cs => ?_⟩
  let g : Gh := ⟨G, fun _ => none, fun _ => none, fun _ => 0⟩
  let β : Base := ⟨w, g, ⟨[], [], []⟩⟩
  have hlen := (RelL.get hrel).1
  have hL : Live X β fn.ntmps env ⟨[], [], []⟩ g w { tmps := vs.toArray ++ Array.replicate (fn.ntmps - vs.toArray.size) undef, defers := [] } := by
    refine ⟨⟨himm, ?_, ?_, ?_, ?_, ?_, fun k cs b e => by simp [getK] at e⟩, hglob, ?_, Keep.refl _ _ _, ?_, rfl⟩
    · intro k cs e; simp [getK] at e
    · intro k k' cs cs' b e; simp [getK] at e
    · intro k n e; simp [getK] at e
    · intro k k' n n' b lo hi lo' hi' e; simp [getK] at e
    · intro k e; simp [g] at e
    · intro t a e
      subst henv
      have key : ∀ (l : List CV) (us : List Value) (k : Nat), RelL G l us → getK t ((l.zipIdx k).map fun (v, i) => (i, AV.c v)) = some a → k ≤ t ∧ ∃ u, us[t - k]? = some u ∧ RelA g a u := by
        intro l
        induction l with
        | nil => intro us k _ e; simp [getK] at e
        | cons v l ih =>
          intro us k hr e
          simp only [RelL] at hr
          obtain ⟨u, us, rfl, h1, h2⟩ := hr
          simp only [List.zipIdx_cons, List.map_cons, getK_cons] at e
          split at e
          · rename_i ht; subst ht; simp at e; subst e
            exact ⟨Nat.le_refl _, u, by simp, by simpa only [RelA] using h1⟩
          · rename_i ht
            obtain ⟨h3, u', h4, h5⟩ := ih us (k + 1) h2 e
            refine ⟨by omega, u', ?_, h5⟩
            rw [show t - k = (t - (k + 1)) + 1 from by omega]; simpa using h4
      obtain ⟨_, u, h4, h5⟩ := key args vs 0 hrel e
      simp at h4
      have hlt : t < vs.length := (List.getElem?_eq_some_iff.1 h4).1
      have : (vs.toArray ++ Array.replicate (fn.ntmps - vs.toArray.size) undef).getD t undef = u := by
        rw [Array.getD_eq_getD_getElem?, Array.getElem?_append_left (by simpa using hlt)]
        simp [h4]
      rw [this]; exact h5
    · simp; omega
  obtain ⟨e, w', fr, ⟨u, g', rfl, h1, h2, h3⟩, h4, h5, h6⟩ := h β rfl g w _ cs hL
  have henter : Frame.enter P f vs.toArray .normal =
      (top f).at { tmps := vs.toArray ++ Array.replicate (fn.ntmps - vs.toArray.size) undef, defers := [] } [.code c] := by
    simp [Frame.enter, Frame.at, hf, hb, top]
  refine ⟨_, w', fr, ⟨u, g'.G, rfl, h1, ⟨h2.os, h2.tape, h2.output, h2.size, fun b hb => h2.block b hb ?_, h2.le, fun b o v hv => ?_, h3⟩⟩, by rw [henter]; exact h4, h5, h6⟩
  · rintro o (⟨k, cs, e, _⟩ | ⟨k, n, lo, hi, e, _⟩) <;> simp [β, getK] at e
  · rcases h2.new b o v hv with h | h | h
    · exact .inl h
    · exact .inr h
    · rcases h with ⟨k, cs, e, _⟩ | ⟨k, n, lo, hi, e, _⟩ <;> simp [β, getK] at e

section
variable {P : Program} {X : Ctx}

/-- The target that a contract's proof comes to. -/
abbrev QR (β : Base) (r : CV) : Ending → World → Prop := fun e w' => ∃ u g', e = .returned u ∧ Rel g'.G r u ∧ Keep β.w β.g β.σ w' g' ⟨[], [], []⟩ ∧ ∀ b o v, g'.G b o = some v → w'.cell? ⟨b, o, none⟩ = some v

theorem Keep.forget {w w' : World} {g g' : Gh} {σ σ' : St} (h : Keep w g σ w' g' σ') : Keep w g σ w' g' ⟨[], [], []⟩ where
  os := h.os
  tape := h.tape
  output := h.output
  size := h.size
  block := h.block
  kept := h.kept
  le := h.le
  new := h.new
  boxes := fun k cs b e => by simp [getK] at e
  toks := fun k n b lo hi e => by simp [getK] at e
  ids := fun k _ e => by simp [getK] at e

/-- Leaving with a closed result. -/
theorem AK.retQ (hX : CtxOk P X) {f : FuncId} {n : Nat} {β : Base} {K : List Item} {env : Env} {σ : St} {fn : Func} (hf : P.funcs[f]? = some fn) {r : AV} {cv cv' : CV}
    (hr : aresult X σ.boxes env fn.results.toList = some r) (hc : close r = some cv) (he : cv = cv') : AK P X f n β (QR β cv') (.code .ret :: K) env σ := by
  subst he
  refine AK.ret hX hf hr fun g w u h1 h2 h3 h4 => ?_
  exact ⟨u, g, rfl, (close_ok r cv u hc h1).1, h4.forget, h2.imm⟩

theorem relL_append {G : Imm} : ∀ {a b : List CV} {us vs : List Value}, RelL G a us → RelL G b vs → RelL G (a ++ b) (us ++ vs)
  | [], b, us, vs, h1, h2 => by simp only [RelL] at h1; subst h1; simpa using h2
  | x :: a, b, us, vs, h1, h2 => by
    simp only [RelL] at h1
    obtain ⟨u, us, rfl, h3, h4⟩ := h1
    simp only [List.cons_append, RelL]
    exact ⟨u, us ++ vs, rfl, h3, relL_append h4 h2⟩

/-- What a call with closed arguments changes of a state: nothing. -/
theorem grows_step {w w' : World} {g : Gh} {σ : St} {G' : Imm} (hi : Inv w g σ) (hG : Grows w g.G w' G') :
    Inv w' ⟨G', g.box, g.tok, g.room⟩ σ ∧ Keep w g σ w' ⟨G', g.box, g.tok, g.room⟩ σ ∧ g.le ⟨G', g.box, g.tok, g.room⟩ := by
  have hle : g.le ⟨G', g.box, g.tok, g.room⟩ := ⟨hG.le, fun _ _ h => h, fun _ _ _ => rfl, fun k hw reg h => ⟨hw, reg, h, Nat.le_refl _, fun _ => rfl⟩⟩
  have hnone : ∀ b o, b < w.heap.size → g.G b o = none → G' b o = none := by
    intro b o hb h
    cases hg : G' b o with
    | none => rfl
    | some v =>
      rcases hG.new b o v hg with h' | h'
      · rw [h] at h'; simp at h'
      · omega
  refine ⟨⟨hG.imm, ?_, hi.boxinj, ?_, hi.tokinj, hi.used, ?_⟩, ⟨hG.os, hG.tape, hG.output, hG.size, fun b hb _ => hG.block b hb, fun b o hb _ => hG.kept b o hb, hG.le, fun b o v h => ?_, ?_, ?_, ?_⟩, hle⟩
  · intro k cs e
    obtain ⟨b, h1, h2, h3, h4⟩ := hi.box k cs e
    exact ⟨b, h1, Nat.lt_of_lt_of_le h2 hG.size, fun o => hnone b o h2 (h3 o), (CellsW.of_same (fun o => hG.kept b o h2) h4).mono hle⟩
  · intro k n e
    obtain ⟨reg, h1, h2⟩ := hi.tok k n e
    refine ⟨reg, h1, fun b lo hi' hr => ?_⟩
    obtain ⟨h3, h4, h5⟩ := h2 b lo hi' hr
    refine ⟨Nat.lt_of_lt_of_le h3 hG.size, fun o ho1 ho2 => ?_, h5⟩
    obtain ⟨h6, ⟨u, h7⟩, h8⟩ := h4 o ho1 ho2
    exact ⟨hnone b o h3 h6, ⟨u, (hG.kept b o h3).1.trans h7⟩, (hG.kept b o h3).2.trans h8⟩
  · intro k cs b e hb o
    obtain ⟨b', h1, h2, _⟩ := hi.box k cs e
    rw [hb] at h1; cases h1
    obtain ⟨h3, h4⟩ := hi.room k cs b e hb o
    exact ⟨fun ho => (h3 ho).imp fun u hu => (hG.kept b o h2).1.trans hu, (hG.kept b o h2).2.trans h4⟩
  · exact (hG.new b o v h).imp id .inl
  · exact fun k cs b h1 h2 => .inr ⟨k, cs, h1, h2⟩
  · exact fun k n b lo hi h1 h2 => .inr ⟨k, n, lo, hi, h1, h2, Nat.le_refl _, Nat.le_refl _⟩
  · exact fun k _ h => ⟨h, rfl, rfl⟩

/-- Arguments of a call, closed. -/
theorem OpSem.callq {o : Oper} {env : Env} {σ : St} {f : FuncId} {args : Array Operand} {ts : Array TypeId} (ho : o.op = .call { callee := .value (.func f), args := args, argTypes := ts })
    {cvs : List CV} {r : CV} (ha : capsOf (aeval X env) args.toList = some cvs) (hq : QCalls P X f cvs r) : OpSem P X o env σ (.c r) (fun σ => σ) ⟨[], []⟩ := by
  intro env1 σ1 w g a next Q h1 h2 hinv hglob henv hnext
  have ha' : capsOf (aeval X env1) args.toList = some cvs := by
    rw [capsOf_congr _ (fun x hx => h1 x (by rw [ho]; simp only [Op.operands, Call.operands, Array.toList_append, List.mem_append]; exact .inr hx))]; exact ha
  have hrel := capsOf_ok (g := g) (ev := a.eval) (fun x v hx => aeval_ok henv hglob hx) ha'
  have hrun : (execOp a.eval o).run P w = .ok (.enter f (args.map a.eval)) w := by
    obtain ⟨dst, op, type, pos, after, guard⟩ := o
    simp only at ho; subst ho
    simp [execOp, resolve, Deferred.ofValue, invoke, Act.eval, hq.1 _ w]
  unfold Oper.wp
  rw [hrun, Oper.upon_enter]
  have := hq.2 g.G w _ hinv.imm hglob hrel
  rw [show (args.toList.map a.eval).toArray = args.map a.eval from by rw [← Array.toList_map]] at this
  refine this.mono ?_
  rintro e w' ⟨u, G', rfl, h3, h4⟩
  obtain ⟨h5, h6, h7⟩ := grows_step hinv h4
  exact hnext u w' _ (by simpa only [RelA] using h3) h5 h6 h7

/-- A call of a function value. -/
theorem OpSem.callc {o : Oper} {env : Env} {σ : St} {f : FuncId} {x : Operand} {caps : List CV} {args : Array Operand} {ts : Array TypeId} (ho : o.op = .call { callee := .value x, args := args, argTypes := ts })
    (hx : aeval X env x = some (.c (.clo f caps))) {cvs : List CV} {r : CV} (ha : capsOf (aeval X env) args.toList = some cvs) (hq : QCalls P X f (cvs ++ caps) r) :
    OpSem P X o env σ (.c r) (fun σ => σ) ⟨[], []⟩ := by
  intro env1 σ1 w g a next Q h1 h2 hinv hglob henv hnext
  have ha' : capsOf (aeval X env1) args.toList = some cvs := by
    rw [capsOf_congr _ (fun x hx => h1 x (by rw [ho]; simp only [Op.operands, Call.operands, Array.toList_append, List.mem_append]; exact .inr hx))]; exact ha
  have hx' : aeval X env1 x = some (.c (.clo f caps)) := by
    rw [h1 x (by rw [ho]; simp [Op.operands, Call.operands])]; exact hx
  have hrel := capsOf_ok (g := g) (ev := a.eval) (fun x v hx => aeval_ok henv hglob hx) ha'
  have hclo := aeval_ok (a := a) henv hglob hx'
  simp only [RelA, Rel] at hclo
  obtain ⟨us, hu, hcaps⟩ := hclo
  have hrun : (execOp a.eval o).run P w = .ok (.enter f (args.map a.eval ++ us.toArray)) w := by
    obtain ⟨dst, op, type, pos, after, guard⟩ := o
    simp only at ho; subst ho
    simp [execOp, resolve, hu, Deferred.ofValue, invoke, hq.1 _ w]
  unfold Oper.wp
  rw [hrun, Oper.upon_enter]
  have := hq.2 g.G w _ hinv.imm hglob (relL_append hrel hcaps)
  rw [show (args.toList.map a.eval ++ us).toArray = args.map a.eval ++ us.toArray from by rw [← Array.toList_map]; simp] at this
  refine this.mono ?_
  rintro e w' ⟨u, G', rfl, h3, h4⟩
  obtain ⟨h5, h6, h7⟩ := grows_step hinv h4
  exact hnext u w' _ (by simpa only [RelA] using h3) h5 h6 h7

end
end Go.Abs

namespace Go.Abs

def St.addBox (σ : St) (d : Nat) (cells : List AV) : St := ⟨(d, cells) :: σ.boxes, σ.toks, d :: σ.used⟩

theorem addBox_eff (d : Nat) (cells : List AV) : EffOk (fun σ => σ.addBox d cells) ⟨[], [d]⟩ where
  out := fun σ k hk => by
    have : k ≠ d := by simpa using hk
    refine ⟨?_, rfl, ?_⟩
    · simp only [St.addBox, getK_cons, if_neg this]
    · simp [St.addBox, this]
  same := fun σ σ1 h k hk => by
    have : k = d := by simpa using hk
    subst this
    refine ⟨?_, (h k (.inr (by simp))).2.1, ?_⟩
    · simp [St.addBox, getK_cons]
    · simp [St.addBox]

theorem one_oneCell {g : Gh} {a : AV} {u : Value} (h : a.one = true) (hr : RelA g a u) : u.oneCell' = true := by
  cases a with
  | c v =>
    simp only [AV.one] at h
    simp only [RelA] at hr
    cases v <;> simp [CV.one] at h <;> simp only [Rel] at hr
    case int => subst hr; rfl
    case bool => subst hr; rfl
    case str => subst hr; rfl
    case nilp => subst hr; rfl
    case sl => obtain ⟨_, _, _, rfl, _⟩ := hr; rfl
    case ip => obtain ⟨_, _, rfl, _⟩ := hr; rfl
    case clo => obtain ⟨_, rfl, _⟩ := hr; rfl
    case any => cases u <;> first | rfl | exact absurd rfl (hr.1 _) | exact absurd rfl (hr.2 _)
    case abool => obtain ⟨_, rfl⟩ := hr; rfl
  | own => simp only [RelA] at hr; obtain ⟨_, _, _, rfl, _⟩ := hr; rfl
  | ptr => simp only [RelA] at hr; obtain ⟨_, _, rfl⟩ := hr; rfl
  | bsl => simp only [RelA] at hr; obtain ⟨_, _, _, _, rfl, _⟩ := hr; rfl
  | any =>
    simp only [RelA] at hr
    cases u <;> first | rfl | exact absurd rfl (hr.1 _) | exact absurd rfl (hr.2 _)
  | agg => simp [AV.one] at h
  | tup => simp [AV.one] at h

section
variable {P : Program} {X : Ctx}

/-- A new block, of which the first cells are told. -/
theorem newBox' {w : World} {g : Gh} {σ : St} {d : Nat} {cells : List AV} {us : Array Value} {t : TypeId} (hinv : Inv w g σ) (hd : d ∉ σ.used) (hdlt : d < 1000000) (hr : RelAL g cells (us.toList.take cells.length)) (ho : cells.all AV.one = true) :
    let g' : Gh := ⟨g.G, fun k => if k = d then some w.heap.size else g.box k, g.tok, fun k => if k = d then us.size else g.room k⟩
    let w' : World := { w with heap := w.heap.push (.cells us t) }
    Inv w' g' (σ.addBox d cells) ∧ Keep w g σ w' g' (σ.addBox d cells) ∧ g.le g' ∧ RelA g' (.ptr d 0) (.pointer (some ⟨w.heap.size, 0, none⟩)) := by
  intro g' w'
  have hbn : g.box d = none := by
    cases h : g.box d with
    | none => rfl
    | some b => exact absurd (hinv.used d (.inl (by simp [h]))) hd
  have hdb : ∀ k cs, getK k σ.boxes = some cs → k ≠ d := by
    rintro k cs e rfl
    obtain ⟨b, h1, _⟩ := hinv.box _ cs e
    rw [hbn] at h1; simp at h1
  have hle : g.le g' := ⟨Imm.le.refl _, fun k b h => by
    by_cases hk : k = d
    · subst hk; rw [hbn] at h; simp at h
    · simp [g', hk, h], fun k b h => by
    by_cases hk : k = d
    · subst hk; rw [hbn] at h; simp at h
    · simp [g', hk], fun k hw reg h => ⟨hw, reg, h, Nat.le_refl _, fun _ => rfl⟩⟩
  have hold : ∀ b o, b < w.heap.size → w'.cell? ⟨b, o, none⟩ = w.cell? ⟨b, o, none⟩ ∧ w'.frozen? ⟨b, o, none⟩ = w.frozen? ⟨b, o, none⟩ := by
    intro b o hb
    exact ⟨World.cell?_alloc_old w _ ⟨b, o, none⟩ (by show b ≠ w.heap.size; omega), World.frozen?_alloc_old w _ ⟨b, o, none⟩ (by show b ≠ w.heap.size; omega)⟩
  have hsz : w'.heap.size = w.heap.size + 1 := by simp [w']
  have hGlt : ∀ b o v, g.G b o = some v → b < w.heap.size := fun b o v h => World.block_lt_of_cell? w ⟨b, o, none⟩ (hinv.imm b o v h)
  have hcells : CellsW w' g' w.heap.size 0 cells := by
    obtain ⟨h1, h2⟩ := RelAL.get hr
    apply CellsW.of_get
    intro j c hj
    obtain ⟨u, e1, e2⟩ := h2 j c hj
    refine ⟨⟨u, ?_, RelA.mono hle _ _ e2, ?_⟩, ?_⟩
    · have := World.cell?_alloc_new w us t (0 + j)
      rw [show (w.alloc (.cells us t)) = w' from rfl] at this
      rw [this]
      rw [List.getElem?_take] at e1
      split at e1
      · simpa using e1
      · simp at e1
    · rw [List.all_eq_true] at ho; exact ho c (List.mem_of_getElem? hj)
    · exact World.frozen?_alloc_new w us t (0 + j)
  refine ⟨⟨?_, ?_, ?_, ?_, hinv.tokinj, ?_, ?_⟩, ⟨rfl, rfl, rfl, by omega, fun b hb _ => by show (w.heap.push _)[b]? = _; rw [Array.getElem?_push, if_neg (by omega)], fun b o hb _ => hold b o hb, Imm.le.refl _, fun _ _ _ h => .inl h, ?_, ?_, fun k hk h => ⟨by simp only [St.addBox, getK_cons] at h; rwa [if_neg (by omega)] at h, by simp only [g']; rw [if_neg (by omega)], by simp only [g']; rw [if_neg (by omega)]⟩⟩, hle, by simp only [RelA]; exact ⟨_, by simp [g'], rfl⟩⟩
  · intro b o v h
    rw [(hold b o (hGlt b o v h)).1]; exact hinv.imm b o v h
  · intro k cs e
    simp only [St.addBox, getK_cons] at e
    split at e
    · rename_i hk; subst hk; simp at e; subst e
      refine ⟨w.heap.size, by simp [g'], by omega, ?_, hcells⟩
      intro o
      cases hg : g.G w.heap.size o with
      | none => rfl
      | some v => have := hGlt _ _ _ hg; omega
    · rename_i hk
      obtain ⟨b, h1, h2, h3, h4⟩ := hinv.box k cs e
      exact ⟨b, by simp [g', hk, h1], by omega, h3, (CellsW.of_same (fun o => hold b o h2) h4).mono hle⟩
  · intro k k' cs cs' b e e' h1 h2
    simp only [St.addBox, getK_cons] at e e'
    simp only [g'] at h1 h2
    split at e
    · rename_i hk
      rw [if_pos hk] at h1; simp at h1
      split at e'
      · rename_i hk'; rw [hk, hk']
      · rename_i hk'
        rw [if_neg hk'] at h2
        obtain ⟨b', h3, h4, _⟩ := hinv.box k' cs' e'
        rw [h3] at h2; simp at h2; omega
    · rename_i hk
      rw [if_neg hk] at h1
      split at e'
      · rename_i hk'
        rw [if_pos hk'] at h2; simp at h2
        obtain ⟨b', h3, h4, _⟩ := hinv.box k cs e
        rw [h3] at h1; simp at h1; omega
      · rename_i hk'
        rw [if_neg hk'] at h2
        exact hinv.boxinj k k' cs cs' b e e' h1 h2
  · intro k n e
    obtain ⟨reg, h1, h2⟩ := hinv.tok k n e
    refine ⟨reg, h1, fun b lo hi hr => ?_⟩
    obtain ⟨h3, h4, h5⟩ := h2 b lo hi hr
    refine ⟨by omega, fun o ho1 ho2 => ?_, fun k' cs e' => ?_⟩
    · obtain ⟨h6, ⟨u, h7⟩, h8⟩ := h4 o ho1 ho2
      exact ⟨h6, ⟨u, (hold b o h3).1.trans h7⟩, (hold b o h3).2.trans h8⟩
    · simp only [St.addBox, getK_cons] at e'
      simp only [g']
      split at e'
      · rename_i hk; rw [if_pos hk]; simp; omega
      · rename_i hk; rw [if_neg hk]; exact h5 k' cs e'
  · intro k e
    simp only [St.addBox, List.mem_cons]
    by_cases hk : k = d
    · exact .inl hk
    · right
      apply hinv.used k
      simpa [g', hk] using e
  · intro k cs b e h o
    simp only [St.addBox, getK_cons] at e
    simp only [g'] at h ⊢
    split at e
    · rename_i hk
      rw [if_pos hk] at h
      rw [if_pos hk]
      simp at h; subst h
      have h1 := World.cell?_alloc_new w us t o
      rw [show (w.alloc (.cells us t)) = w' from rfl] at h1
      have h2 := World.frozen?_alloc_new w us t o
      rw [show (w.alloc (.cells us t)) = w' from rfl] at h2
      exact ⟨fun ho => ⟨us[o], by rw [h1]; simp [ho]⟩, h2⟩
    · rename_i hk
      rw [if_neg hk] at h
      rw [if_neg hk]
      obtain ⟨b', h3, h4, _⟩ := hinv.box k cs e
      rw [h] at h3; cases h3
      obtain ⟨h5, h6⟩ := hinv.room k cs b e h o
      exact ⟨fun ho => (h5 ho).imp fun u hu => (hold b o h4).1.trans hu, (hold b o h4).2.trans h6⟩
  · intro k cs b e h
    simp only [St.addBox, getK_cons] at e
    simp only [g'] at h
    split at e
    · rename_i hk; rw [if_pos hk] at h; simp at h; left; omega
    · rename_i hk; rw [if_neg hk] at h; exact .inr ⟨k, cs, e, h⟩
  · exact fun k n b lo hi h1 h2 => .inr ⟨k, n, lo, hi, h1, h2, Nat.le_refl _, Nat.le_refl _⟩

theorem newBox {w : World} {g : Gh} {σ : St} {d : Nat} {cells : List AV} {us : Array Value} {t : TypeId} (hinv : Inv w g σ) (hd : d ∉ σ.used) (hdlt : d < 1000000) (hr : RelAL g cells us.toList) (ho : cells.all AV.one = true) :
    let g' : Gh := ⟨g.G, fun k => if k = d then some w.heap.size else g.box k, g.tok, fun k => if k = d then us.size else g.room k⟩
    let w' : World := { w with heap := w.heap.push (.cells us t) }
    Inv w' g' (σ.addBox d cells) ∧ Keep w g σ w' g' (σ.addBox d cells) ∧ g.le g' ∧ RelA g' (.ptr d 0) (.pointer (some ⟨w.heap.size, 0, none⟩)) := by
  have hl : cells.length = us.toList.length := (RelAL.get hr).1
  exact newBox' (t := t) hinv hd hdlt (by rw [hl, List.take_length]; exact hr) ho

theorem not_mem_used {d : Nat} : ∀ {l : List Nat}, mem d l = false → d ∉ l
  | [], _ => by simp
  | x :: l, h => by
    simp only [mem] at h
    split at h
    · simp at h
    · rename_i hx
      have := beq_false hx
      simp [not_mem_used h, Ne.symm this]

/-- In use, or no slot's key. -/
def memF (d : Nat) (l : List Nat) : Bool := match Nat.blt d 1000000 with
  | true => mem d l
  | false => true

theorem memF_ok {d : Nat} {l : List Nat} (h : memF d l = false) : d < 1000000 ∧ mem d l = false := by
  unfold memF at h
  split at h
  · rename_i hb; exact ⟨by simpa [Nat.blt_eq] using hb, h⟩
  · simp at h

/-- A variable that is boxed. -/
theorem OpSem.box {o : Oper} {env : Env} {σ : St} {t : TypeId} {x : Operand} {d : Nat} (ho : o.op = .box t x) (hd : o.dst = some d) {a : AV} (ha : aeval X env x = some a) {cells : List AV}
    (hc : cellsA a = some cells) (hu : memF d σ.used = false) : OpSem P X o env σ (.ptr d 0) (fun σ => σ.addBox d cells) ⟨[], [d]⟩ := by
  intro env1 σ1 w g act next Q h1 h2 hinv hglob henv hnext
  have ha' : aeval X env1 x = some a := by rw [h1 x (by rw [ho]; simp [Op.operands])]; exact ha
  obtain ⟨c1, c2⟩ := cellsA_ok hc (aeval_ok (a := act) henv hglob ha')
  have hd' : d ∉ σ1.used := fun h => not_mem_used (memF_ok hu).2 ((h2 d (.inr (by simp))).2.2.1 h)
  have hrun : (execOp act.eval o).run P w = .ok (.value (.pointer (some ⟨w.heap.size, 0, none⟩))) { w with heap := w.heap.push (.cells (act.eval x).cells t) } := by
    obtain ⟨dst, op, type, pos, after, guard⟩ := o
    simp only at ho; subst ho
    simp [execOp, Instr.box, newVar, newRow]
  unfold Oper.wp
  rw [hrun, Oper.upon_value]
  obtain ⟨h3, h4, h5, h6⟩ := newBox (t := t) hinv hd' (memF_ok hu).1 c1 c2
  exact hnext _ _ _ h6 h3 h4 h5

/-- A new variable, zero. -/
theorem OpSem.alloc (hX : CtxOk P X) {o : Oper} {env : Env} {σ : St} {t : TypeId} {d : Nat} (ho : o.op = .alloc t) (hd : o.dst = some d) {i : TI} (hi : X.ti t = some i) {za : AV} (hz : i.zero = some za) {cells : List AV}
    (hc : cellsA za = some cells) (hu : memF d σ.used = false) : OpSem P X o env σ (.ptr d 0) (fun σ => σ.addBox d cells) ⟨[], [d]⟩ := by
  intro env1 σ1 w g act next Q h1 h2 hinv hglob henv hnext
  obtain ⟨z, z1, z2, z3⟩ := hX.run_zeroValue (w := w) hi hz
  obtain ⟨c1, c2⟩ := cellsA_ok hc (z2 g)
  have hd' : d ∉ σ1.used := fun h => not_mem_used (memF_ok hu).2 ((h2 d (.inr (by simp))).2.2.1 h)
  have hrun : (execOp act.eval o).run P w = .ok (.value (.pointer (some ⟨w.heap.size, 0, none⟩))) { w with heap := w.heap.push (.cells z.cells t) } := by
    obtain ⟨dst, op, type, pos, after, guard⟩ := o
    simp only at ho; subst ho
    simp [execOp, Instr.alloc, newVar, newRow, z1]
  unfold Oper.wp
  rw [hrun, Oper.upon_value]
  obtain ⟨h3, h4, h5, h6⟩ := newBox (t := t) hinv hd' (memF_ok hu).1 c1 c2
  exact hnext _ _ _ h6 h3 h4 h5

def St.setBox (σ : St) (k : Nat) (cells : List AV) : St := ⟨setK k cells σ.boxes, σ.toks, σ.used⟩

theorem setBox_eff (k : Nat) (cells : List AV) : EffOk (fun σ => σ.setBox k cells) ⟨[], [k]⟩ where
  out := fun σ j hj => by
    have : j ≠ k := by simpa using hj
    exact ⟨by simp only [St.setBox, getK_setK, if_neg this], rfl, Iff.rfl⟩
  same := fun σ σ1 h j hj => by
    have : j = k := by simpa using hj
    subst this
    exact ⟨by simp [St.setBox, getK_setK], (h j (.inr (by simp))).2.1, (h j (.inr (by simp))).2.2⟩

theorem heap_setCell (w : World) (a : Addr) (u : Value) (k : Nat) (h : k ≠ a.block) : (w.setCell a u).heap[k]? = w.heap[k]? := by
  simp only [World.setCell, Array.getElem?_modify]
  rw [if_neg (by omega)]

theorem run_storeCells {w : World} (b : Nat) : ∀ (vs : List Value) (o i : Nat) (w : World), (∀ v ∈ vs, v.oneCell' = true) →
    (∀ j, j < vs.length → (∃ u, w.cell? ⟨b, o + i + j, none⟩ = some u) ∧ w.frozen? ⟨b, o + i + j, none⟩ = false) →
    ∃ w', (storeCells ⟨b, o, none⟩ vs i).run P w = .ok () w' ∧ (w'.heap.size = w.heap.size ∧ w'.os = w.os ∧ w'.tape = w.tape ∧ w'.output = w.output ∧ ∀ b', b' ≠ b → w'.heap[b']? = w.heap[b']?) ∧
      (∀ b' o', b' ≠ b ∨ o' < o + i ∨ o + i + vs.length ≤ o' → w'.cell? ⟨b', o', none⟩ = w.cell? ⟨b', o', none⟩) ∧
      (∀ b' o', w'.frozen? ⟨b', o', none⟩ = w.frozen? ⟨b', o', none⟩) ∧
      ∀ j v, vs[j]? = some v → w'.cell? ⟨b, o + i + j, none⟩ = some v
  | [], o, i, w, _, _ => ⟨w, by simp [storeCells], ⟨rfl, rfl, rfl, rfl, fun _ _ => rfl⟩, fun _ _ _ => rfl, fun _ _ => rfl, by simp⟩
  | v :: vs, o, i, w, h1, h2 => by
    obtain ⟨⟨u, hu⟩, hf⟩ := h2 0 (by simp)
    simp only [Nat.add_zero] at hu hf
    have hv := h1 v (by simp)
    have hst : (store (Addr.add ⟨b, o, none⟩ i) v).run P w = .ok () (w.setCell ⟨b, o + i, none⟩ v) := by
      rw [Addr.add_lit]
      have := run_store P w ⟨b, o + i, none⟩ v .plain hv
      rw [this]; simp [hu, hf]
    obtain ⟨w', r1, r2, r3, r4, r5⟩ := run_storeCells (w := w) b vs o (i + 1) (w.setCell ⟨b, o + i, none⟩ v) (fun x hx => h1 x (by simp [hx])) (by
      intro j hj
      obtain ⟨⟨u', hu'⟩, hf'⟩ := h2 (j + 1) (by simp; omega)
      refine ⟨⟨u', ?_⟩, ?_⟩
      · rw [World.cell?_setCell_other w _ _ _ (by simp; omega)]
        rwa [show o + (i + 1) + j = o + i + (j + 1) from by omega]
      · rw [World.frozen?_setCell]
        rwa [show o + (i + 1) + j = o + i + (j + 1) from by omega])
    refine ⟨w', ?_, ⟨by simpa using r2.1, r2.2.1, r2.2.2.1, r2.2.2.2.1, fun b' hb' => (r2.2.2.2.2 b' hb').trans (heap_setCell w _ _ _ hb')⟩, ?_, ?_, ?_⟩
    · simp only [storeCells, Sem.run_bind, hst, Result.andThen_ok, r1]
    · intro b' o' h
      rw [r3 b' o' (by simp at h ⊢; omega), World.cell?_setCell_other w]
      intro e
      simp at e h
      obtain ⟨rfl, rfl⟩ := e
      omega
    · intro b' o'; rw [r4, World.frozen?_setCell]
    · intro j v' hj
      cases j with
      | zero =>
        simp at hj; subst hj
        rw [r3 b _ (by right; left; omega)]
        exact World.cell?_setCell_same w _ _ hu
      | succ j =>
        simp at hj
        have := r5 j v' hj
        rwa [show o + (i + 1) + j = o + i + (j + 1) from by omega] at this

/-- A store into a box. -/
theorem OpSem.store (hX : CtxOk P X) {o : Oper} {env : Env} {σ : St} {t : TypeId} {x y : Operand} (ho : o.op = .store t x y) (hd : o.dst = none) {i : TI} (hi : X.ti t = some i) {key off : Nat}
    (hx : aeval X env x = some (.ptr key off)) {a : AV} (hy : aeval X env y = some a) {cells vs r : List AV} (hb : getK key σ.boxes = some cells) (hc : cellsA a = some vs)
    (hl : vs.length = i.size) (hw : writeAt off vs cells = some r) : OpSem P X o env σ (.c .undef) (fun σ => σ.setBox key r) ⟨[], [key]⟩ := by
  intro env1 σ1 w g act next Q h1 h2 hinv hglob henv hnext
  have hx' : aeval X env1 x = some (.ptr key off) := by rw [h1 x (by rw [ho]; simp [Op.operands])]; exact hx
  have hy' : aeval X env1 y = some a := by rw [h1 y (by rw [ho]; simp [Op.operands])]; exact hy
  have hb' : getK key σ1.boxes = some cells := by rw [(h2 key (.inr (by simp))).1]; exact hb
  have rx := aeval_ok (a := act) henv hglob hx'
  simp only [RelA] at rx
  obtain ⟨b, hbx, ex⟩ := rx
  obtain ⟨c1, c2⟩ := cellsA_ok hc (aeval_ok (a := act) henv hglob hy')
  obtain ⟨b', hbx', hblt, hbG, hbc⟩ := hinv.box key cells hb'
  rw [hbx] at hbx'; simp at hbx'; subst hbx'
  obtain ⟨l1, l2⟩ := RelAL.get c1
  have hne : i.size ≠ 0 := by obtain ⟨_, _, _, _, _, _, hh⟩ := hX.ti t i hi; exact hh
  obtain ⟨w1, w2, w3⟩ := writeAt_get hw
  have hfit : off + vs.length ≤ cells.length := by
    cases vs with
    | nil => simp at hl; omega
    | cons u us => exact writeAt_ne hw
  obtain ⟨w', r1, r2, r3, r4, r5⟩ := run_storeCells (P := P) (w := w) b (act.eval y).cells.toList off 0 w (by
      intro u hu
      obtain ⟨j, hj⟩ := List.getElem?_of_mem hu
      have hjl : j < vs.length := by rw [l1]; exact (List.getElem?_eq_some_iff.1 hj).1
      obtain ⟨u', e1, e2⟩ := l2 j vs[j] (by simp [hjl])
      rw [hj] at e1; simp at e1; subst e1
      rw [List.all_eq_true] at c2
      exact one_oneCell (c2 _ (List.getElem_mem hjl)) e2) (by
      intro j hj
      have hjl : off + j < cells.length := by rw [← l1] at hj; omega
      obtain ⟨⟨u, e1, _⟩, e2⟩ := hbc.get (off + j) cells[off + j] (by simp [hjl])
      simp only [Nat.zero_add, Nat.add_zero] at e1 e2 ⊢
      exact ⟨⟨u, e1⟩, e2⟩)
  have hrun : (execOp act.eval o).run P w = .ok .skip w' := by
    obtain ⟨dst, op, type, pos, after, guard⟩ := o
    simp only at ho; subst ho
    have hsz : (act.eval y).cells.size = i.size := by rw [← hl, l1]; simp
    simp only [execOp, ex, Instr.storeAt, Instr.sureAddr, storeVar, Sem.run_bind, Sem.run_pure, Result.andThen_ok, hX.run_sizeOf hi]
    rw [if_neg (by simpa using hsz), r1]; rfl
  unfold Oper.wp
  rw [hrun, Oper.upon_skip, hd]
  have hother : ∀ b' o', b' ≠ b → w'.cell? ⟨b', o', none⟩ = w.cell? ⟨b', o', none⟩ := fun b' o' h => r3 b' o' (.inl h)
  have hGne : ∀ b' o' v, g.G b' o' = some v → b' ≠ b := by
    rintro b' o' v h rfl; rw [hbG] at h; simp at h
  have := hnext Go.undef w' g (by simp [RelA, Rel]) ⟨?_, ?_, ?_, ?_, hinv.tokinj, hinv.used, ?_⟩ ⟨r2.2.1, r2.2.2.1, r2.2.2.2.1, by omega, fun b' hb0 hno => r2.2.2.2.2 b' (by rintro rfl; exact hno 0 (.inl ⟨key, cells, hb', hbx⟩)), ?_, Imm.le.refl _, fun _ _ _ h => .inl h, ?_, ?_, fun k _ h => ⟨by simp only [St.setBox, getK_setK] at h; split at h; (· rename_i hk; subst hk; rw [hb']; simp); (· exact h), rfl, rfl⟩⟩ (Gh.le.refl _)
  · rw [hd] at this; exact this
  · intro b' o' v h
    rw [hother b' o' (hGne b' o' v h)]; exact hinv.imm b' o' v h
  · intro k cs e
    simp only [St.setBox, getK_setK] at e
    split at e
    · rename_i hk; subst hk; simp at e; subst e
      refine ⟨b, hbx, by omega, hbG, ?_⟩
      apply CellsW.of_get
      intro j c hj
      rw [w3] at hj
      simp only [Nat.zero_add]
      split at hj
      · rename_i hin
        obtain ⟨u, e1, e2⟩ := l2 _ _ hj
        refine ⟨⟨u, ?_, e2, ?_⟩, ?_⟩
        · have := r5 (j - off) u (by simpa using e1)
          rwa [show off + 0 + (j - off) = j from by omega] at this
        · rw [List.all_eq_true] at c2; exact c2 c (List.mem_of_getElem? hj)
        · rw [r4]
          have hjl : j < cells.length := by omega
          have := (hbc.get j cells[j] (by simp [hjl])).2
          simpa using this
      · rename_i hin
        obtain ⟨⟨u, e1, e2, e3⟩, e4⟩ := hbc.get j c hj
        simp only [Nat.zero_add] at e1 e4
        refine ⟨⟨u, ?_, e2, e3⟩, by rw [r4]; exact e4⟩
        rw [r3 b j (by right; have := l1; omega)]; exact e1
    · rename_i hk
      obtain ⟨b', e1, e2, e3, e4⟩ := hinv.box k cs e
      have hbb : b' ≠ b := by
        rintro rfl
        exact hk (hinv.boxinj k key cs cells _ e hb' e1 hbx)
      exact ⟨b', e1, by omega, e3, CellsW.of_same (fun o => ⟨hother b' o hbb, r4 b' o⟩) e4⟩
  · intro k k' cs cs' b'' e e' e1 e2
    have hex : ∀ k cs, getK k (σ1.setBox key r).boxes = some cs → ∃ cs, getK k σ1.boxes = some cs := by
      intro k cs e
      simp only [St.setBox, getK_setK] at e
      split at e
      · rename_i hk; subst hk; exact ⟨_, hb'⟩
      · exact ⟨_, e⟩
    obtain ⟨c1, f1⟩ := hex k cs e
    obtain ⟨c2, f2⟩ := hex k' cs' e'
    exact hinv.boxinj k k' c1 c2 b'' f1 f2 e1 e2
  · intro k n e
    obtain ⟨reg, e1, e2⟩ := hinv.tok k n e
    refine ⟨reg, e1, fun b' lo hi hr => ?_⟩
    obtain ⟨e3, e4, e5⟩ := e2 b' lo hi hr
    have hbb : b' ≠ b := by
      rintro rfl; exact e5 key cells hb' hbx
    refine ⟨by omega, fun o' h1 h2 => ?_, fun k' cs e' => ?_⟩
    · obtain ⟨e6, ⟨u, e7⟩, e8⟩ := e4 o' h1 h2
      exact ⟨e6, ⟨u, by rw [hother b' o' hbb]; exact e7⟩, by rw [r4]; exact e8⟩
    · simp only [St.setBox, getK_setK] at e'
      split at e'
      · rename_i hk; subst hk; exact e5 _ cells hb'
      · exact e5 k' cs e'
  · intro k cs b0 e hb0 o0
    have hex : ∃ cs0, getK k σ1.boxes = some cs0 := by
      simp only [St.setBox, getK_setK] at e
      split at e
      · rename_i hk; subst hk; exact ⟨_, hb'⟩
      · exact ⟨_, e⟩
    obtain ⟨cs0, e0⟩ := hex
    obtain ⟨q0, q2⟩ := hinv.room k cs0 b0 e0 hb0 o0
    refine ⟨fun ho0 => ?_, by rw [r4]; exact q2⟩
    obtain ⟨u, q1⟩ := q0 ho0
    by_cases hw0 : b0 = b ∧ off ≤ o0 ∧ o0 < off + (act.eval y).cells.toList.length
    · obtain ⟨rfl, h5, h6⟩ := hw0
      obtain ⟨v, hj⟩ : ∃ v, (act.eval y).cells.toList[o0 - off]? = some v := ⟨_, List.getElem?_eq_getElem (by omega)⟩
      have := r5 (o0 - off) v hj
      rw [show off + 0 + (o0 - off) = o0 from by omega] at this
      exact ⟨v, this⟩
    · refine ⟨u, ?_⟩
      rw [r3 b0 o0 (by
        by_cases hbb : b0 = b
        · right; have := fun a c => hw0 ⟨hbb, a, c⟩; omega
        · exact .inl hbb)]
      exact q1
  · intro b' o' hlt hno
    refine ⟨hother b' o' ?_, r4 b' o'⟩
    rintro rfl
    exact hno (.inl ⟨key, cells, hb', hbx⟩)
  · intro k cs b' e e1
    simp only [St.setBox, getK_setK] at e
    split at e
    · rename_i hk; subst hk; exact .inr ⟨_, _, hb', e1⟩
    · exact .inr ⟨k, cs, e, e1⟩
  · exact fun k n b lo hi h1 h2 => .inr ⟨k, n, lo, hi, h1, h2, Nat.le_refl _, Nat.le_refl _⟩

end
end Go.Abs

namespace Go.Abs

def sameZ1 : AV → Value → Bool
  | .c (.int k n), .int k' n' => k == k' && n == n'
  | .c (.bool b), .bool b' => b == b'
  | .c (.str []), .string s => s.data.toList.isEmpty
  | .c .nilp, .pointer none => true
  | .own .exact _ [], .slice none 0 0 => true
  | _, _ => false

def sameZs : List AV → List Value → Bool
  | [], [] => true
  | a :: l, v :: vs => sameZ1 a v && sameZs l vs
  | _, _ => false

def sameZ : AV → Value → Bool
  | .agg l, .agg cs => sameZs l cs.toList
  | a, v => sameZ1 a v

theorem sameZ1_ok {a : AV} {v : Value} (h : sameZ1 a v = true) (g : Gh) : RelA g a v ∧ a.one = true := by
  unfold sameZ1 at h
  split at h <;> simp at h
  · obtain ⟨rfl, rfl⟩ := h; simp [RelA, Rel, AV.one, CV.one]
  · subst h; simp [RelA, Rel, AV.one, CV.one]
  · rename_i s
    simp only [RelA, Rel, AV.one, CV.one, and_true]
    congr 1
    apply ByteArray.ext
    simp [h]
  · simp [RelA, Rel, AV.one, CV.one]
  · simp only [RelA, AV.one, and_true]; exact ⟨_, _, _, rfl, rfl, Nat.le_refl _, .inl rfl, rfl⟩

theorem sameZs_ok (g : Gh) : ∀ {l : List AV} {vs : List Value}, sameZs l vs = true → RelAL g l vs ∧ l.all AV.one = true
  | [], [], _ => by simp [RelAL]
  | [], _ :: _, h => by simp [sameZs] at h
  | _ :: _, [], h => by simp [sameZs] at h
  | a :: l, v :: vs, h => by
    simp only [sameZs, Bool.and_eq_true] at h
    obtain ⟨h1, h2⟩ := sameZ1_ok h.1 g
    obtain ⟨h3, h4⟩ := sameZs_ok g h.2
    exact ⟨by simp only [RelAL]; exact ⟨v, vs, rfl, h1, h3⟩, by simp only [List.all_cons, h2, Bool.true_and]; exact h4⟩

theorem sameZ_ok {a : AV} {v : Value} (h : sameZ a v = true) (g : Gh) : RelA g a v := by
  unfold sameZ at h
  split at h
  · rename_i l cs
    obtain ⟨h1, h2⟩ := sameZs_ok g h
    simp only [RelA]
    exact ⟨cs.toList, by simp, h1, h2⟩
  · exact (sameZ1_ok h g).1

def kindIs (P : Program) (k : TK) (d : TypeDesc) : Bool :=
  match k, d with
  | .int k, .int k' => k == k'
  | .bool, .bool => true
  | .str, .string => true
  | .ptr e, .pointer e' => e == e'
  | .slice e, .slice e' => e == e'
  | .arr n e, .array n' e' => n == n' && e == e'
  | .struct fs, .struct fields => fields.toList.map (fun f => (f.offset, f.type)) == fs && fields.toList.all fun f => match P.info? f.type with
    | some inf => inf.size != 0
    | none => false
  | .other, .func .. => true
  | .other, .map .. => true
  | .other, .tuple .. => true
  | _, _ => false

theorem kindIs_ok {P : Program} {k : TK} {d : TypeDesc} (h : kindIs P k d = true) : KindOk P k d := by
  unfold kindIs at h
  split at h <;> simp at h <;> simp only [KindOk]
  · rw [h]
  · rw [h]
  · rw [h]
  · rw [h.1, h.2]
  · rename_i fs fields
    refine ⟨fields, rfl, by simpa using h.1, fun f hf => ?_⟩
    obtain ⟨i, hi, he⟩ := Array.getElem_of_mem (Array.mem_toList_iff.1 hf)
    have := h.2 i hi
    rw [he] at this
    split at this
    · rename_i inf hinf
      exact ⟨inf, hinf, by simpa using this⟩
    · simp at this

def tiOk (P : Program) (t : Nat) (i : TI) : Bool :=
  match P.info? t, P.underlying t with
  | some inf, some d => inf.size == i.size && inf.bytes == i.bytes && i.size != 0 && kindIs P i.kind d &&
    (match i.zero with
      | none => true
      | some a => match inf.zero with
        | none => false
        | some z => sameZ a z && z.cells.size == i.size)
  | _, _ => false

theorem ctxOk_of {P : Program} {table : List (Nat × TI)} {X : Ctx} (hX : X.ti = fun t => getK t table) (h : table.all (fun p => tiOk P p.1 p.2) = true) : CtxOk P X where
  ti := fun t i e => by
    rw [hX] at e
    have key : ∀ (l : List (Nat × TI)), l.all (fun p => tiOk P p.1 p.2) = true → getK t l = some i → tiOk P t i = true := by
      intro l
      induction l with
      | nil => intro _ e; simp [getK] at e
      | cons x l ih =>
        intro h e
        obtain ⟨j, y⟩ := x
        simp only [List.all_cons, Bool.and_eq_true] at h
        simp only [getK] at e
        split at e
        · rename_i hj; have hjt := beq_true hj; rw [← hjt]; simp at e; rw [← e]; exact h.1
        · exact ih h.2 e
    have := key table h e
    unfold tiOk at this
    split at this
    · rename_i inf d h1 h2
      simp only [Bool.and_eq_true, beq_iff_eq, bne_iff_ne] at this
      obtain ⟨⟨⟨⟨a1, a2⟩, a3⟩, a4⟩, a5⟩ := this
      refine ⟨inf, h1, a1, a2, ?_, ⟨d, h2, kindIs_ok a4⟩, a3⟩
      intro a ha
      rw [ha] at a5
      simp only at a5
      split at a5
      · simp at a5
      · rename_i z hz
        simp only [Bool.and_eq_true, beq_iff_eq] at a5
        exact ⟨z, hz, sameZ_ok a5.1, a5.2⟩
    · simp at this

end Go.Abs

namespace Go.Abs

section
variable {P : Program} {X : Ctx} {ops : Array Oper} {o : Oper} {rest : List Oper} {env : Env} {σ : St} {acc : List Fp} {Q : Env → St → List Fp → Prop}
  {bs : List (Nat × List AV)} {ts : List (Nat × Nat)} {us : List Nat} {kn : List Nat}

theorem guard_in (h : aguard ops.toList kn env o = some true) : GuardIn ops o env := by
  have := aguard_ok h; simpa using this

/-- A call with closed arguments. -/
theorem AOps.callq (kn : List Nat) (hg : aguard ops.toList kn env o = some true) {f : FuncId} {args : Array Operand} {ats : Array TypeId} (ho : o.op = .call { callee := .value (.func f), args := args, argTypes := ats })
    {d : Nat} (hd : o.dst = some d) {cvs : List CV} (ha : capsOf (aeval X env) args.toList = some cvs) {r : CV} (hq : QCalls P X f cvs r)
    (k : AOps P X ops rest ((d, .c r) :: env) σ (⟨[], []⟩ :: acc) Q) : AOps P X ops (o :: rest) env σ acc Q :=
  AOps.step (guard_in hg) (OpSem.callq ho ha hq) (EffOk.id _) (by rw [hd]; exact k)

/-- A call of a function value. -/
theorem AOps.callc (kn : List Nat) (hg : aguard ops.toList kn env o = some true) {x : Operand} {args : Array Operand} {ats : Array TypeId} (ho : o.op = .call { callee := .value x, args := args, argTypes := ats })
    {d : Nat} (hd : o.dst = some d) {f : FuncId} {caps : List CV} (hx : aeval X env x = some (.c (.clo f caps))) {cvs : List CV} (ha : capsOf (aeval X env) args.toList = some cvs) {r : CV} (hq : QCalls P X f (cvs ++ caps) r)
    (k : AOps P X ops rest ((d, .c r) :: env) σ (⟨[], []⟩ :: acc) Q) : AOps P X ops (o :: rest) env σ acc Q :=
  AOps.step (guard_in hg) (OpSem.callc ho hx ha hq) (EffOk.id _) (by rw [hd]; exact k)

theorem AOps.box (kn : List Nat) (hg : aguard ops.toList kn env o = some true) {t : TypeId} {x : Operand} (ho : o.op = .box t x) {d : Nat} (hd : o.dst = some d) {a : AV} (ha : aeval X env x = some a)
    {cells : List AV} (hc : cellsA a = some cells) (hu : memF d us = false) (k : AOps P X ops rest ((d, .ptr d 0) :: env) ⟨(d, cells) :: bs, ts, d :: us⟩ (⟨[], [d]⟩ :: acc) Q) :
    AOps P X ops (o :: rest) env ⟨bs, ts, us⟩ acc Q :=
  AOps.step (guard_in hg) (OpSem.box ho hd ha hc hu) (addBox_eff d cells) (by rw [hd]; exact k)

theorem AOps.alloc (hX : CtxOk P X) (kn : List Nat) (hg : aguard ops.toList kn env o = some true) {t : TypeId} (ho : o.op = .alloc t) {d : Nat} (hd : o.dst = some d) {i : TI} (hi : X.ti t = some i) {za : AV} (hz : i.zero = some za)
    {cells : List AV} (hc : cellsA za = some cells) (hu : memF d us = false) (k : AOps P X ops rest ((d, .ptr d 0) :: env) ⟨(d, cells) :: bs, ts, d :: us⟩ (⟨[], [d]⟩ :: acc) Q) :
    AOps P X ops (o :: rest) env ⟨bs, ts, us⟩ acc Q :=
  AOps.step (guard_in hg) (OpSem.alloc hX ho hd hi hz hc hu) (addBox_eff d cells) (by rw [hd]; exact k)

theorem AOps.store (hX : CtxOk P X) (kn : List Nat) (hg : aguard ops.toList kn env o = some true) {t : TypeId} {x y : Operand} (ho : o.op = .store t x y) (hd : o.dst = none) {i : TI} (hi : X.ti t = some i) {key off : Nat}
    (hx : aeval X env x = some (.ptr key off)) {a : AV} (hy : aeval X env y = some a) {cells vs r : List AV} (hb : getK key bs = some cells) (hc : cellsA a = some vs)
    (hl : Nat.beq vs.length i.size = true) (hw : writeAt off vs cells = some r) {bs' : List (Nat × List AV)} (hs : setKF key r bs = some bs')
    (k : AOps P X ops rest env ⟨bs', ts, us⟩ (⟨[], [key]⟩ :: acc) Q) : AOps P X ops (o :: rest) env ⟨bs, ts, us⟩ acc Q := by
  rw [setKF_eq] at hs
  simp only [Option.some.injEq] at hs
  subst hs
  exact AOps.step (guard_in hg) (OpSem.store hX ho hd hi hx hy hb hc (beq_true hl) hw) (setBox_eff key r) (by rw [hd]; exact k)

end
end Go.Abs

namespace Go.Abs

def closeAll : List AV → Option (List CV)
  | [] => some []
  | .c v :: l => match closeAll l with
    | some r => some (v :: r)
    | none => none
  | .own _ s rows :: l => match closeAll l with
    | some r => some (.sl s rows :: r)
    | none => none
  | _ => none

mutual
def substA (k : Nat) (cs : List CV) : AV → Option AV
  | .ptr j off => match Nat.beq j k with
    | true => match dropN off cs with
      | some r => some (.c (.ip r))
      | none => none
    | false => some (.ptr j off)
  | .bsl j off s n => match Nat.beq j k with
    | true => none
    | false => some (.bsl j off s n)
  | .agg l => match substL k cs l with
    | some r => some (.agg r)
    | none => none
  | .tup l => match substL k cs l with
    | some r => some (.tup r)
    | none => none
  | a => some a
def substL (k : Nat) (cs : List CV) : List AV → Option (List AV)
  | [] => some []
  | a :: l => match substA k cs a with
    | some x => match substL k cs l with
      | some r => some (x :: r)
      | none => none
    | none => none
end

def substE (k : Nat) (cs : List CV) : Env → Option Env
  | [] => some []
  | (t, a) :: l => match substA k cs a with
    | some x => match substE k cs l with
      | some r => some ((t, x) :: r)
      | none => none
    | none => none

/-- The other boxes, with the pointers turned. -/
def substB (k : Nat) (cs : List CV) : List (Nat × List AV) → Option (List (Nat × List AV))
  | [] => some []
  | (j, a) :: l => match Nat.beq j k with
    | true => substB k cs l
    | false => match substL k cs a with
      | some x => match substB k cs l with
        | some r => some ((j, x) :: r)
        | none => none
      | none => none

section
variable {P : Program} {X : Ctx}

theorem closeAll_ok {w : World} {g : Gh} {b : Nat} : ∀ {cells : List AV} {cs : List CV} {o : Nat}, closeAll cells = some cs → CellsW w g b o cells →
    cells.length = cs.length ∧ ∀ (j : Nat) c, cs[j]? = some c → ∃ u, w.cell? ⟨b, o + j, none⟩ = some u ∧ Rel g.G c u ∧ c.one = true
  | [], cs, o, h, _ => by simp [closeAll] at h; subst h; simp
  | .c v :: l, cs, o, h, hc => by
    simp only [closeAll] at h
    split at h
    · rename_i r hr
      simp at h; subst h
      obtain ⟨⟨u, h1, h2, h3⟩, _, h4⟩ := hc
      obtain ⟨i1, i2⟩ := closeAll_ok hr h4
      refine ⟨by simp [i1], fun j c hj => ?_⟩
      cases j with
      | zero => simp at hj; subst hj; exact ⟨u, h1, by simpa only [RelA] using h2, h3⟩
      | succ j =>
        simp at hj
        have := i2 j c hj
        rwa [show o + 1 + j = o + (j + 1) from by omega] at this
    · simp at h
  | .own k s rows :: l, cs, o, h, hc => by
    simp only [closeAll] at h
    split at h
    · rename_i r hr
      simp at h; subst h
      obtain ⟨⟨u, h1, h2, h3⟩, _, h4⟩ := hc
      obtain ⟨i1, i2⟩ := closeAll_ok hr h4
      refine ⟨by simp [i1], fun j c hj => ?_⟩
      cases j with
      | zero =>
        simp at hj; subst hj
        have := close_ok (.own k s rows) (.sl s rows) u rfl h2
        exact ⟨u, h1, this.1, rfl⟩
      | succ j =>
        simp at hj
        have := i2 j c hj
        rwa [show o + 1 + j = o + (j + 1) from by omega] at this
    · simp at h
  | .ptr _ _ :: l, cs, o, h, hc => by simp [closeAll] at h
  | .bsl .. :: l, cs, o, h, hc => by simp [closeAll] at h
  | .any :: l, cs, o, h, hc => by simp [closeAll] at h
  | .agg _ :: l, cs, o, h, hc => by simp [closeAll] at h
  | .tup _ :: l, cs, o, h, hc => by simp [closeAll] at h

/-- The ghost behind a box's freezing. -/
def Gh.freeze (g : Gh) (w : World) (k b n : Nat) : Gh :=
  ⟨fun b' o => if b' = b ∧ o < n then w.cell? ⟨b', o, none⟩ else g.G b' o, fun j => if j = k then none else g.box j, g.tok, g.room⟩

theorem freeze_le {g : Gh} {w : World} {k b n : Nat} (himm : ∀ b o v, g.G b o = some v → w.cell? ⟨b, o, none⟩ = some v) : g.G.le (g.freeze w k b n).G := by
  intro b' o v h
  simp only [Gh.freeze]
  split
  · exact himm _ _ _ h
  · exact h

mutual
theorem substA_ok {g : Gh} {w : World} {k b : Nat} {cs : List CV} (himm : ∀ b o v, g.G b o = some v → w.cell? ⟨b, o, none⟩ = some v) (hb : g.box k = some b)
    (hcs : CellsG (g.freeze w k b cs.length).G b 0 cs) : ∀ {a x : AV} {u : Value}, substA k cs a = some x → RelA g a u → RelA (g.freeze w k b cs.length) x u ∧ (a.one = true → x.one = true)
  | .ptr j off, x, u, h, hr => by
    simp only [substA] at h
    simp only [RelA] at hr
    obtain ⟨b', h1, rfl⟩ := hr
    split at h
    · rename_i hj
      have := beq_true hj; subst this
      rw [hb] at h1; simp at h1; subst h1
      split at h
      · rename_i r hr
        simp at h; subst h
        obtain ⟨rfl, hl⟩ := dropN_eq hr
        refine ⟨?_, fun _ => rfl⟩
        simp only [RelA, Rel]
        exact ⟨b, off, rfl, by simpa using hcs.drop (n := off)⟩
      · simp at h
    · rename_i hj
      have := beq_false hj
      simp at h; subst h
      exact ⟨by simp only [RelA]; exact ⟨b', by simp [Gh.freeze, this, h1], rfl⟩, id⟩
  | .bsl j off s n, x, u, h, hr => by
    simp only [substA] at h
    simp only [RelA] at hr
    obtain ⟨b', cap, o, h1, rfl, h2, h3⟩ := hr
    split at h
    · simp at h
    · rename_i hj
      have := beq_false hj
      simp at h; subst h
      exact ⟨by simp only [RelA]; exact ⟨b', cap, o, by simp [Gh.freeze, this, h1], rfl, h2, h3⟩, id⟩
  | .any, x, u, h, hr => by
    simp [substA] at h; subst h
    exact ⟨by simp only [RelA] at hr ⊢; exact hr, id⟩
  | .agg l, x, u, h, hr => by
    simp only [substA] at h
    split at h
    · rename_i r hr'
      simp at h; subst h
      simp only [RelA] at hr
      obtain ⟨vs, rfl, h1, h2⟩ := hr
      obtain ⟨i1, i2⟩ := substL_ok himm hb hcs hr' h1
      exact ⟨by simp only [RelA]; exact ⟨vs, rfl, i1, i2 h2⟩, fun h => by simp [AV.one] at h⟩
    · simp at h
  | .tup l, x, u, h, hr => by
    simp only [substA] at h
    split at h
    · rename_i r hr'
      simp at h; subst h
      simp only [RelA] at hr
      obtain ⟨vs, rfl, h1, h2⟩ := hr
      obtain ⟨i1, i2⟩ := substL_ok himm hb hcs hr' h1
      have hlen : r.length = l.length := by
        have a1 := (RelAL.get i1).1; have a2 := (RelAL.get h1).1; omega
      exact ⟨by simp only [RelA]; exact ⟨vs, rfl, i1, by omega⟩, fun h => by simp [AV.one] at h⟩
    · simp at h
  | .c v, x, u, h, hr => by
    simp [substA] at h; subst h
    exact ⟨by simp only [RelA] at hr ⊢; exact Rel.mono (freeze_le himm) _ _ hr, id⟩
  | .own o s rows, x, u, h, hr => by
    simp [substA] at h; subst h
    refine ⟨?_, id⟩
    simp only [RelA] at hr ⊢
    obtain ⟨base, len, cap, e, h1, h2, h3, h4⟩ := hr
    refine ⟨base, len, cap, e, h1, h2, h3.mono (freeze_le himm), ?_⟩
    cases o with
    | exact => exact h4
    | tok key n => exact h4
theorem substL_ok {g : Gh} {w : World} {k b : Nat} {cs : List CV} (himm : ∀ b o v, g.G b o = some v → w.cell? ⟨b, o, none⟩ = some v) (hb : g.box k = some b)
    (hcs : CellsG (g.freeze w k b cs.length).G b 0 cs) : ∀ {l r : List AV} {us : List Value}, substL k cs l = some r → RelAL g l us → RelAL (g.freeze w k b cs.length) r us ∧ (l.all AV.one = true → r.all AV.one = true)
  | [], r, us, h, hr => by
    simp [substL] at h; subst h; simp only [RelAL] at hr ⊢; exact ⟨hr, id⟩
  | a :: l, r, us, h, hr => by
    simp only [substL] at h
    split at h
    · rename_i x hx
      split at h
      · rename_i r' hr'
        simp at h; subst h
        simp only [RelAL] at hr
        obtain ⟨u, us, rfl, h1, h2⟩ := hr
        obtain ⟨i1, i2⟩ := substA_ok himm hb hcs hx h1
        obtain ⟨i3, i4⟩ := substL_ok himm hb hcs hr' h2
        refine ⟨by simp only [RelAL]; exact ⟨u, us, rfl, i1, i3⟩, fun h => ?_⟩
        simp only [List.all_cons, Bool.and_eq_true] at h ⊢
        exact ⟨i2 h.1, i4 h.2⟩
      · simp at h
    · simp at h
end

theorem substE_get {k : Nat} {cs : List CV} : ∀ {env env' : Env}, substE k cs env = some env' → ∀ t x, getK t env' = some x → ∃ a, getK t env = some a ∧ substA k cs a = some x
  | [], env', h, t, x, e => by simp [substE] at h; subst h; simp [getK] at e
  | (j, a) :: l, env', h, t, x, e => by
    simp only [substE] at h
    split at h
    · rename_i y hy
      split at h
      · rename_i r hr
        simp at h; subst h
        rw [getK_cons] at e
        rw [getK_cons]
        split at e
        · rename_i ht; rw [if_pos ht]; simp at e; subst e; exact ⟨a, rfl, hy⟩
        · rename_i ht; rw [if_neg ht]; exact substE_get hr t x e
      · simp at h
    · simp at h

theorem substB_get {k : Nat} {cs : List CV} : ∀ {bs bs' : List (Nat × List AV)}, substB k cs bs = some bs' → ∀ j x, getK j bs' = some x → j ≠ k ∧ ∃ a, getK j bs = some a ∧ substL k cs a = some x
  | [], bs', h, j, x, e => by simp [substB] at h; subst h; simp [getK] at e
  | (i, a) :: l, bs', h, j, x, e => by
    simp only [substB] at h
    split at h
    · rename_i hi
      have := beq_true hi; subst this
      obtain ⟨h1, a', h2, h3⟩ := substB_get h j x e
      exact ⟨h1, a', by rw [getK_cons, if_neg h1]; exact h2, h3⟩
    · rename_i hi
      have hne := beq_false hi
      split at h
      · rename_i y hy
        split at h
        · rename_i r hr
          simp at h; subst h
          rw [getK_cons] at e
          rw [getK_cons]
          split at e
          · rename_i hj; subst hj; simp at e; subst e; exact ⟨hne, a, by simp, hy⟩
          · rename_i hj
            obtain ⟨h1, a', h2, h3⟩ := substB_get hr j x e
            exact ⟨h1, a', by rw [if_neg hj]; exact h2, h3⟩
        · simp at h
      · simp at h

/-- A box is not written any more: what it holds is told by itself from here on. -/
theorem AK.freeze {f : FuncId} {n : Nat} {β : Base} {R : Ending → World → Prop} {K : List Item} {env env' : Env} {bs bs' : List (Nat × List AV)} {ts : List (Nat × Nat)} {us : List Nat} (k : Nat)
    {cells : List AV} {cs : List CV} (hk : getK k bs = some cells) (hc : closeAll cells = some cs) (he : substE k cs env = some env') (hb : substB k cs bs = some bs')
    (h : AK P X f n β R K env' ⟨bs', ts, us⟩) : AK P X f n β R K env ⟨bs, ts, us⟩ := by
  intro g w a cst hL
  obtain ⟨b, hgb, hlt, hGn, hcw⟩ := hL.inv.box k cells hk
  obtain ⟨hlen, hcell⟩ := closeAll_ok hc hcw
  let g' := g.freeze w k b cs.length
  have hle : g.G.le g'.G := freeze_le hL.inv.imm
  have hcs : CellsG g'.G b 0 cs := by
    apply CellsG.of_get
    intro j c hj
    obtain ⟨u, e1, e2, e3⟩ := hcell j c hj
    have hjl : j < cs.length := (List.getElem?_eq_some_iff.1 hj).1
    refine ⟨u, ?_, Rel.mono hle _ _ e2, e3⟩
    simp only [g', Gh.freeze, Nat.zero_add, true_and, hjl, if_true]
    simpa using e1
  have hold : ∀ b' o, b' ≠ b → g'.G b' o = g.G b' o := by
    intro b' o hb'
    simp only [g', Gh.freeze, hb', false_and, if_false]
  have hcells : ∀ (b' : Nat) (l r : List AV) (o : Nat), substL k cs l = some r → CellsW w g b' o l → CellsW w g' b' o r := by
    intro b' l
    induction l with
    | nil => intro r o h1 _; simp [substL] at h1; subst h1; trivial
    | cons x l ih =>
      intro r o h1 h2
      simp only [substL] at h1
      split at h1
      · rename_i y hy
        split at h1
        · rename_i r' hr'
          simp at h1; subst h1
          obtain ⟨⟨u, h3, h4, h5⟩, h6, h7⟩ := h2
          obtain ⟨i1, i2⟩ := substA_ok hL.inv.imm hgb hcs hy h4
          exact ⟨⟨u, h3, i1, i2 h5⟩, h6, ih r' (o + 1) hr' h7⟩
        · simp at h1
      · simp at h1
  refine h g' w a cst ⟨⟨?_, ?_, ?_, ?_, ?_, ?_, ?_⟩, ?_, ?_, ?_, hL.size, hL.defers⟩
  · intro b' o v hv
    simp only [g', Gh.freeze] at hv
    split at hv
    · exact hv
    · exact hL.inv.imm _ _ _ hv
  · intro j x e
    obtain ⟨hne, l, e1, e2⟩ := substB_get hb j x e
    obtain ⟨b', f1, f2, f3, f4⟩ := hL.inv.box j l e1
    have hbb : b' ≠ b := by
      rintro rfl
      exact hne (hL.inv.boxinj j k l cells b' e1 hk f1 hgb)
    exact ⟨b', by simp [g', Gh.freeze, hne, f1], f2, fun o => by rw [hold b' o hbb]; exact f3 o, hcells b' l x 0 e2 f4⟩
  · intro j j' x x' b' e e' e1 e2
    obtain ⟨hne, l, f1, _⟩ := substB_get hb j x e
    obtain ⟨hne', l', f1', _⟩ := substB_get hb j' x' e'
    simp only [g', Gh.freeze, hne, hne', if_false] at e1 e2
    exact hL.inv.boxinj j j' l l' b' f1 f1' e1 e2
  · intro j m e
    obtain ⟨reg, e1, e2⟩ := hL.inv.tok j m e
    refine ⟨reg, e1, fun b' lo hi hr => ?_⟩
    obtain ⟨f1, f2, f3⟩ := e2 b' lo hi hr
    have hbb : b' ≠ b := by rintro rfl; exact f3 k cells hk hgb
    refine ⟨f1, fun o o1 o2 => ?_, fun j' x e' => ?_⟩
    · obtain ⟨f4, f5, f6⟩ := f2 o o1 o2
      exact ⟨by rw [hold b' o hbb]; exact f4, f5, f6⟩
    · obtain ⟨hne, l, f7, _⟩ := substB_get hb j' x e'
      simp only [g', Gh.freeze, hne, if_false]
      exact f3 j' l f7
  · intro j j' m m' b' lo hi lo' hi' e e' e1 e2
    exact hL.inv.tokinj j j' m m' b' lo hi lo' hi' e e' e1 e2
  · intro j e
    apply hL.inv.used j
    simp only [g', Gh.freeze] at e
    rcases e with e | e
    · left; intro hn; apply e; split
      · rfl
      · exact hn
    · exact .inr e
  · intro j x b' e hb' o
    obtain ⟨hne, l, f1, _⟩ := substB_get hb j x e
    simp only [g', Gh.freeze, hne, if_false] at hb' ⊢
    exact hL.inv.room j l b' f1 hb' o
  · intro m v hm; exact Rel.mono hle _ _ (hL.glob m v hm)
  · intro t x e
    obtain ⟨y, e1, e2⟩ := substE_get he t x e
    exact (substA_ok hL.inv.imm hgb hcs e2 (hL.env t y e1)).1
  · refine hL.frame.trans ⟨rfl, rfl, rfl, Nat.le_refl _, fun _ _ _ => rfl, fun _ _ _ _ => ⟨rfl, rfl⟩, hle, fun b' o v hv => ?_, fun j x b' e e1 => ?_, fun j m b' lo hi e e1 => .inr ⟨j, m, lo, hi, e, e1, Nat.le_refl _, Nat.le_refl _⟩, fun j _ h => ?_⟩
    · by_cases hbb : b' = b
      · subst hbb; exact .inr (.inr (.inl ⟨k, cells, hk, hgb⟩))
      · rw [hold b' o hbb] at hv; exact .inl hv
    · obtain ⟨hne, l, f1, _⟩ := substB_get hb j x e
      simp only [g', Gh.freeze, hne, if_false] at e1
      exact .inr ⟨j, l, f1, e1⟩
    · cases hc : getK j bs' with
      | none => exact absurd hc h
      | some x =>
        obtain ⟨hne, l, f1, _⟩ := substB_get hb j x hc
        exact ⟨by rw [f1]; simp, by simp [g', Gh.freeze, hne], by simp [g', Gh.freeze]⟩
end
end Go.Abs

namespace Go.Abs

mutual
def okA (us : List Nat) : AV → Bool
  | .c _ => true
  | .own .exact _ _ => true
  | .own (.tok key _) _ _ => mem key us
  | .ptr key _ => mem key us
  | .bsl key _ _ _ => mem key us
  | .any => true
  | .agg l => okAL us l
  | .tup l => okAL us l
def okAL (us : List Nat) : List AV → Bool
  | [] => true
  | a :: l => match okA us a with
    | true => okAL us l
    | false => false
end

def okE (us : List Nat) : Env → Bool
  | [] => true
  | (_, a) :: l => match okA us a with
    | true => okE us l
    | false => false

def okB (us : List Nat) : List (Nat × List AV) → Bool
  | [] => true
  | (k, a) :: l => match mem k us, okAL us a with
    | true, true => okB us l
    | _, _ => false

def okT (us : List Nat) : List (Nat × Nat) → Bool
  | [] => true
  | (k, _) :: l => match mem k us with
    | true => okT us l
    | false => false

/-- A slot holds a value, or one that is closed to it. -/
def Has (env : Env) (t : Nat) (a : AV) : Prop := getK t env = some a ∨ ∃ b v, getK t env = some b ∧ close b = some v ∧ a = .c v

def HasAll (env : Env) : Env → Prop
  | [] => True
  | (t, a) :: l => Has env t a ∧ HasAll env l

def HasB (bs : List (Nat × List AV)) : List (Nat × List AV) → Prop
  | [] => True
  | (k, a) :: l => getK k bs = some a ∧ HasB bs l

def HasT (ts : List (Nat × Nat)) : List (Nat × Nat) → Prop
  | [] => True
  | (k, a) :: l => getK k ts = some a ∧ HasT ts l

theorem mem_iff {k : Nat} : ∀ {l : List Nat}, mem k l = true ↔ k ∈ l
  | [] => by simp [mem]
  | x :: l => by
    simp only [mem]
    split
    · rename_i h; have := beq_true h; subst this; simp
    · rename_i h; have := beq_false h; simp [mem_iff (l := l), Ne.symm this]

def Gh.only (g : Gh) (us : List Nat) : Gh := ⟨g.G, fun k => if mem k us then g.box k else none, fun k => if mem k us then g.tok k else none, g.room⟩

mutual
theorem okA_ok {g : Gh} {us : List Nat} : ∀ {a : AV} {u : Value}, okA us a = true → RelA g a u → RelA (g.only us) a u
  | .c v, u, _, h => by simp only [RelA] at h ⊢; exact h
  | .own .exact s rows, u, _, h => by simp only [RelA] at h ⊢; exact h
  | .own (.tok key n) s rows, u, ho, h => by
    simp only [okA] at ho
    simp only [RelA] at h ⊢
    obtain ⟨base, len, cap, e, h1, h2, h3, hw, reg, h4, h5⟩ := h
    exact ⟨base, len, cap, e, h1, h2, h3, hw, reg, by simp [Gh.only, ho, h4], h5⟩
  | .ptr key off, u, ho, h => by
    simp only [okA] at ho
    simp only [RelA] at h ⊢
    obtain ⟨b, h1, h2⟩ := h
    exact ⟨b, by simp [Gh.only, ho, h1], h2⟩
  | .bsl key off s n, u, ho, h => by
    simp only [okA] at ho
    simp only [RelA] at h ⊢
    obtain ⟨b, cap, o, h1, h2, h3, h4⟩ := h
    exact ⟨b, cap, o, by simp [Gh.only, ho, h1], h2, h3, h4⟩
  | .any, u, _, h => by simp only [RelA] at h ⊢; exact h
  | .agg l, u, ho, h => by
    simp only [okA] at ho
    simp only [RelA] at h ⊢
    obtain ⟨vs, e, h1, h2⟩ := h
    exact ⟨vs, e, okAL_ok ho h1, h2⟩
  | .tup l, u, ho, h => by
    simp only [okA] at ho
    simp only [RelA] at h ⊢
    obtain ⟨vs, e, h1, h2⟩ := h
    exact ⟨vs, e, okAL_ok ho h1, h2⟩
theorem okAL_ok {g : Gh} {us : List Nat} : ∀ {l : List AV} {vs : List Value}, okAL us l = true → RelAL g l vs → RelAL (g.only us) l vs
  | [], vs, _, h => by simpa only [RelAL] using h
  | a :: l, vs, ho, h => by
    simp only [okAL] at ho
    split at ho
    · rename_i h1
      simp only [RelAL] at h ⊢
      obtain ⟨u, us', e, h2, h3⟩ := h
      exact ⟨u, us', e, okA_ok h1 h2, okAL_ok ho h3⟩
    · simp at ho
end

theorem okE_get {us : List Nat} : ∀ {env : Env}, okE us env = true → ∀ t a, getK t env = some a → okA us a = true
  | [], _, t, a, e => by simp [getK] at e
  | (j, x) :: l, h, t, a, e => by
    simp only [okE] at h
    split at h
    · rename_i hx
      rw [getK_cons] at e
      split at e
      · simp at e; subst e; exact hx
      · exact okE_get h t a e
    · simp at h

theorem okB_get {us : List Nat} : ∀ {bs : List (Nat × List AV)}, okB us bs = true → ∀ k a, getK k bs = some a → mem k us = true ∧ okAL us a = true
  | [], _, t, a, e => by simp [getK] at e
  | (j, x) :: l, h, t, a, e => by
    simp only [okB] at h
    split at h
    · rename_i hj hx
      rw [getK_cons] at e
      split at e
      · rename_i ht; subst ht; simp at e; subst e; exact ⟨hj, hx⟩
      · exact okB_get h t a e
    · simp at h

theorem okT_get {us : List Nat} : ∀ {ts : List (Nat × Nat)}, okT us ts = true → ∀ k a, getK k ts = some a → mem k us = true
  | [], _, t, a, e => by simp [getK] at e
  | (j, x) :: l, h, t, a, e => by
    simp only [okT] at h
    split at h
    · rename_i hj
      rw [getK_cons] at e
      split at e
      · rename_i ht; subst ht; exact hj
      · exact okT_get h t a e
    · simp at h

theorem hasAll_get {env : Env} : ∀ {l : Env}, HasAll env l → ∀ t a, getK t l = some a → Has env t a
  | [], _, t, a, e => by simp [getK] at e
  | (j, x) :: l, h, t, a, e => by
    rw [getK_cons] at e
    split at e
    · rename_i ht; subst ht; simp at e; subst e; exact h.1
    · exact hasAll_get h.2 t a e

theorem hasB_get {bs : List (Nat × List AV)} : ∀ {l : List (Nat × List AV)}, HasB bs l → ∀ k a, getK k l = some a → getK k bs = some a
  | [], _, t, a, e => by simp [getK] at e
  | (j, x) :: l, h, t, a, e => by
    rw [getK_cons] at e
    split at e
    · rename_i ht; subst ht; simp at e; subst e; exact h.1
    · exact hasB_get h.2 t a e

theorem hasT_get {ts : List (Nat × Nat)} : ∀ {l : List (Nat × Nat)}, HasT ts l → ∀ k a, getK k l = some a → getK k ts = some a
  | [], _, t, a, e => by simp [getK] at e
  | (j, x) :: l, h, t, a, e => by
    rw [getK_cons] at e
    split at e
    · rename_i ht; subst ht; simp at e; subst e; exact h.1
    · exact hasT_get h.2 t a e

section
variable {P : Program} {X : Ctx}

/-- Go on with a part of what is known. -/
theorem AK.rebase {f : FuncId} {n : Nat} {β : Base} {R : Ending → World → Prop} {K : List Item} {env : Env} {bs : List (Nat × List AV)} {ts : List (Nat × Nat)} {us : List Nat}
    (env' : Env) (bs' : List (Nat × List AV)) (ts' : List (Nat × Nat)) (us' : List Nat)
    (he : HasAll env env') (hb : HasB bs bs') (ht : HasT ts ts') (h1 : okE us' env' = true) (h2 : okB us' bs' = true) (h3 : okT us' ts' = true)
    (h : AK P X f n β R K env' ⟨bs', ts', us'⟩) : AK P X f n β R K env ⟨bs, ts, us⟩ := by
  intro g w a cs hL
  refine h (g.only us') w a cs ⟨⟨hL.inv.imm, ?_, ?_, ?_, ?_, ?_, ?_⟩, hL.glob, ?_, ?_, hL.size, hL.defers⟩
  · intro k x e
    obtain ⟨m1, m2⟩ := okB_get h2 k x e
    obtain ⟨b, e1, e2, e3, e4⟩ := hL.inv.box k x (hasB_get hb k x e)
    refine ⟨b, by simp [Gh.only, m1, e1], e2, e3, ?_⟩
    have key : ∀ (l : List AV) (o : Nat), okAL us' l = true → CellsW w g b o l → CellsW w (g.only us') b o l := by
      intro l
      induction l with
      | nil => intro _ _ _; trivial
      | cons y l ih =>
        intro o h1 h2
        simp only [okAL] at h1
        split at h1
        · rename_i hy
          obtain ⟨⟨u, f1, f2, f3⟩, f4, f5⟩ := h2
          exact ⟨⟨u, f1, okA_ok hy f2, f3⟩, f4, ih (o + 1) h1 f5⟩
        · simp at h1
    exact key x 0 m2 e4
  · intro k k' x x' b e e' e1 e2
    simp only [Gh.only, (okB_get h2 k x e).1, (okB_get h2 k' x' e').1, if_true] at e1 e2
    exact hL.inv.boxinj k k' x x' b (hasB_get hb k x e) (hasB_get hb k' x' e') e1 e2
  · intro k m e
    obtain ⟨reg, e1, e2⟩ := hL.inv.tok k m (hasT_get ht k m e)
    refine ⟨reg, by simp [Gh.only, okT_get h3 k m e, e1], fun b lo hi hr => ?_⟩
    obtain ⟨f1, f2, f3⟩ := e2 b lo hi hr
    refine ⟨f1, f2, fun k' x e' => ?_⟩
    simp only [Gh.only, (okB_get h2 k' x e').1, if_true]
    exact f3 k' x (hasB_get hb k' x e')
  · intro k k' m m' b lo hi lo' hi' e e' e1 e2
    simp only [Gh.only, okT_get h3 k m e, okT_get h3 k' m' e', if_true] at e1 e2
    exact hL.inv.tokinj k k' m m' b lo hi lo' hi' (hasT_get ht k m e) (hasT_get ht k' m' e') e1 e2
  · intro k e
    simp only [Gh.only] at e
    rw [← mem_iff (l := us')]
    by_cases hk : mem k us' = true
    · exact hk
    · simp [hk] at e
  · intro k x b e e1 o
    simp only [Gh.only, (okB_get h2 k x e).1, if_true] at e1
    exact hL.inv.room k x b (hasB_get hb k x e) e1 o
  · intro t x e
    rcases hasAll_get he t x e with hx | ⟨y, v, hy, hv, rfl⟩
    · exact okA_ok (okE_get h1 t x e) (hL.env t x hx)
    · have := (close_ok y v _ hv (hL.env t y hy)).1
      simp only [RelA]; exact this
  · refine hL.frame.trans ⟨rfl, rfl, rfl, Nat.le_refl _, fun _ _ _ => rfl, fun _ _ _ _ => ⟨rfl, rfl⟩, Imm.le.refl _, fun _ _ _ h => .inl h, fun k x b e e1 => ?_, fun k m b lo hi e e1 => ?_, fun k _ h => ?_⟩
    · simp only [Gh.only, (okB_get h2 k x e).1, if_true] at e1
      exact .inr ⟨k, x, hasB_get hb k x e, e1⟩
    · simp only [Gh.only, okT_get h3 k m e, if_true] at e1
      exact .inr ⟨k, m, lo, hi, hasT_get ht k m e, e1, Nat.le_refl _, Nat.le_refl _⟩
    · cases hc : getK k bs' with
      | none => exact absurd hc h
      | some x => exact ⟨by rw [hasB_get hb k x hc]; simp, by simp [Gh.only, (okB_get h2 k x hc).1], rfl⟩

end
end Go.Abs

namespace Go.Abs

/-- Every guard's number. -/
abbrev kn : List Nat := [0,1,2,3,4,5,6,7,8,9,10,11,12,13,14,15,16,17,18,19,20,21,22,23,24,25,26,27,28,29,30,31,32,33,34,35,36,37,38,39,40,41,42,43,44,45,46,47,48,49,50,51,52,53,54,55,56,57,58,59,60,61,62,63,64,65,66,67,68,69]

inductive KRes where
  | at (K : List Item) (env : Env)
  | stuck

/-- Items that need no look at what is tested or called, one behind the other. -/
def akrun (X : Ctx) (n : Nat) (boxes : List (Nat × List AV)) : Nat → List Item → Env → KRes
  | 0, K, env => .at K env
  | m + 1, K, env => match K with
    | .code (.seq x y) :: K' => akrun X n boxes m (.code x :: .code y :: K') env
    | .code .skip :: K' => akrun X n boxes m K' env
    | .code (.block id c) :: K' => akrun X n boxes m (.code c :: .inBlock id :: K') env
    | .inBlock _ :: K' => akrun X n boxes m K' env
    | .code (.exit id) :: K' => match exitTo id K' with
      | some K'' => akrun X n boxes m K'' env
      | none => .at K env
    | .code (.region _ ops false) :: K' => match dstsOk ops n with
      | true => match arun X ops.toList boxes [] 500 ops.toList env [] with
        | .at [] env' _ => akrun X n boxes m K' env'
        | _ => .at K env
      | false => .at K env
    | _ => .at K env

/-- Likewise, if there is one such item. -/
def akrunP (X : Ctx) (n : Nat) (boxes : List (Nat × List AV)) (m : Nat) (K : List Item) (env : Env) : KRes := match K with
  | .code (.seq x y) :: K' => akrun X n boxes m (.code x :: .code y :: K') env
  | .code .skip :: K' => akrun X n boxes m K' env
  | .code (.block id c) :: K' => akrun X n boxes m (.code c :: .inBlock id :: K') env
  | .inBlock _ :: K' => akrun X n boxes m K' env
  | .code (.exit id) :: K' => match exitTo id K' with
    | some K'' => akrun X n boxes m K'' env
    | none => .stuck
  | .code (.region _ ops false) :: K' => match dstsOk ops n with
    | true => match arun X ops.toList boxes [] 500 ops.toList env [] with
      | .at [] env' _ => akrun X n boxes m K' env'
      | _ => .stuck
    | false => .stuck
  | _ => .stuck

section
variable {P : Program} {X : Ctx} {f : FuncId} {n : Nat} {β : Base} {R : Ending → World → Prop}

theorem AK.regR (hX : CtxOk P X) (hm : P.follows .mixedOrders = true) {id : Nat} {ops : Array Oper} {K : List Item} {env env' : Env} {σ : St} {acc : List Fp} (hd : dstsOk ops n = true)
    (h : arun X ops.toList σ.boxes [] 500 ops.toList env [] = .at [] env' acc) (k : AK P X f n β R K env' σ) : AK P X f n β R (.code (.region id ops false) :: K) env σ :=
  AK.region hm hd (AOps.run hX 500 [] h (AOps.done k))

theorem akrun_ok (hX : CtxOk P X) (hm : P.follows .mixedOrders = true) {σ : St} : ∀ (m : Nat) {K K' : List Item} {env env' : Env}, akrun X n σ.boxes m K env = .at K' env' →
    AK P X f n β R K' env' σ → AK P X f n β R K env σ := by
  intro m
  induction m with
  | zero => intro K K' env env' h k; simp [akrun] at h; obtain ⟨rfl, rfl⟩ := h; exact k
  | succ m ih =>
    intro K K' env env' h k
    have stop : KRes.at K env = .at K' env' → AK P X f n β R K env σ := by
      intro h; simp at h; obtain ⟨rfl, rfl⟩ := h; exact k
    simp only [akrun] at h
    split at h
    · exact AK.seq (ih h k)
    · exact AK.skip (ih h k)
    · exact AK.block (ih h k)
    · exact AK.inBlock (ih h k)
    · split at h
      · rename_i e; exact AK.exit e (ih h k)
      · exact stop h
    · split at h
      · rename_i hd
        split at h
        · rename_i e; exact AK.regR hX hm hd e (ih h k)
        · exact stop h
      · exact stop h
    · exact stop h

theorem AK.runP (hX : CtxOk P X) (hm : P.follows .mixedOrders = true) {σ : St} (m : Nat) {K K' : List Item} {env env' : Env} (h : akrunP X n σ.boxes m K env = .at K' env')
    (k : AK P X f n β R K' env' σ) : AK P X f n β R K env σ := by
  unfold akrunP at h
  split at h
  · exact AK.seq (akrun_ok hX hm m h k)
  · exact AK.skip (akrun_ok hX hm m h k)
  · exact AK.block (akrun_ok hX hm m h k)
  · exact AK.inBlock (akrun_ok hX hm m h k)
  · split at h
    · rename_i e; exact AK.exit e (akrun_ok hX hm m h k)
    · simp at h
  · split at h
    · rename_i hd
      split at h
      · rename_i e; exact AK.regR hX hm hd e (akrun_ok hX hm m h k)
      · simp at h
    · simp at h
  · simp at h

/-- Go on with a part of what is known: what is behind it first. -/
theorem AK.again {K : List Item} {env : Env} {bs : List (Nat × List AV)} {ts : List (Nat × Nat)} {us : List Nat} {env' : Env} {bs' : List (Nat × List AV)} {ts' : List (Nat × Nat)} {us' : List Nat}
    (h : AK P X f n β R K env' ⟨bs', ts', us'⟩) (he : HasAll env env') (hb : HasB bs bs') (ht : HasT ts ts') (h1 : okE us' env' = true) (h2 : okB us' bs' = true) (h3 : okT us' ts' = true) :
    AK P X f n β R K env ⟨bs, ts, us⟩ := AK.rebase env' bs' ts' us' he hb ht h1 h2 h3 h

/-- A loop: what is known at its head, by an index that a measure lowers. -/
theorem AK.loopE {C : Code} {K : List Item} {env : Env} {bs : List (Nat × List AV)} {ts : List (Nat × Nat)} {us : List Nat} {α : Type} (I : α → Prop) (μ : α → Nat)
    (E : α → Env) (B : α → List (Nat × List AV)) (T : α → List (Nat × Nat)) (U : List Nat) (x0 : α) (h0 : I x0)
    (he : HasAll env (E x0)) (hb : HasB bs (B x0)) (ht : HasT ts (T x0)) (h1 : okE U (E x0) = true) (h2 : okB U (B x0) = true) (h3 : okT U (T x0) = true)
    (step : ∀ x, I x → (∀ y, I y → μ y < μ x → AK P X f n β R (.inLoop C :: K) (E y) ⟨B y, T y, U⟩) → AK P X f n β R (.code C :: .inLoop C :: K) (E x) ⟨B x, T x, U⟩) :
    AK P X f n β R (.code (.loop C) :: K) env ⟨bs, ts, us⟩ := by
  refine AK.loop (AK.rebase (E x0) (B x0) (T x0) U he hb ht h1 h2 h3 ?_)
  have key : ∀ (m : Nat) (x : α), μ x < m → I x → AK P X f n β R (.code C :: .inLoop C :: K) (E x) ⟨B x, T x, U⟩ := by
    intro m
    induction m with
    | zero => intro x hx; omega
    | succ m ih =>
      intro x hx hI
      exact step x hI fun y hy hlt => AK.inLoop (ih y (by omega) hy)
  exact key (μ x0 + 1) x0 (by omega) h0
end

section
variable {P : Program} {X : Ctx} {ops : Array Oper} {o : Oper} {rest : List Oper} {env : Env} {σ : St} {acc : List Fp} {Q : Env → St → List Fp → Prop}

theorem OpSem.index (hX : CtxOk P X) {t : TypeId} {x ix : Operand} (ho : o.op = .indexAddr t x ix) {i j : TI} {e : Nat} (hi : X.ti t = some i) (hk : i.kind = .slice e) (hj : X.ti e = some j)
    {a : AV} {s : Nat} {rows : List CV} (ha : aeval X env x = some a) (hr : rowsOf a = some (s, rows)) (hs : Nat.beq s j.size = true) {k : IntKind} {z : Int} (hz : aeval X env ix = some (.c (.int k z)))
    {m : Nat} (hm : z = m) {r : CV} (hrow : rows[m]? = some r) : OpSem P X o env σ (.c (.ip r.cells)) (fun σ => σ) ⟨[], []⟩ := by
  intro env1 σ1 w g act next Q h1 h2 hinv hglob henv hnext
  have ha' : aeval X env1 x = some a := by rw [h1 x (by rw [ho]; simp [Op.operands])]; exact ha
  have hz' : aeval X env1 ix = some (.c (.int k z)) := by rw [h1 ix (by rw [ho]; simp [Op.operands])]; exact hz
  obtain ⟨base, len, cap, e1, e2, _, e3⟩ := rowsOf_val hr (aeval_ok (a := act) henv hglob ha')
  have e4 := rel_int_val (aeval_ok (a := act) henv hglob hz')
  have hlt : m < rows.length := (List.getElem?_eq_some_iff.1 hrow).1
  obtain ⟨d, hd1, hd2, _⟩ := hX.run_underlying (w := w) hi
  rw [hk] at hd2; simp only [KindOk] at hd2; subst hd2
  have hss := beq_true hs
  rcases e3 with rfl | ⟨b, o', rfl, hrows⟩
  · simp at hlt
  · have hg := (hrows.get m r hrow).1
    have hrun : (execOp act.eval o).run P w = .ok (.value (.pointer (some ⟨b, o' + m * j.size, none⟩))) w := by
      obtain ⟨dst, op, type, pos, after, guard⟩ := o
      simp only at ho; subst ho
      simp [execOp, e1, e4, hm, Instr.indexAt, asIntOf, hd1, e2, hlt, hX.run_sizeOf hj, Addr.add_lit]
    unfold Oper.wp
    rw [hrun, Oper.upon_value]
    refine hnext _ w g ?_ hinv (Keep.refl _ _ _) (Gh.le.refl _)
    simp only [RelA, Rel]
    exact ⟨b, _, rfl, by rw [← hss]; exact hg⟩

/-- An index that is no literal. -/
theorem AOps.index (hX : CtxOk P X) (hg : aguard ops.toList kn env o = some true) {t : TypeId} {x ix : Operand} (ho : o.op = .indexAddr t x ix) {d : Nat} (hd : o.dst = some d)
    {i j : TI} {e : Nat} (hi : X.ti t = some i) (hk : i.kind = .slice e) (hj : X.ti e = some j)
    {a : AV} {s : Nat} {rows : List CV} (ha : aeval X env x = some a) (hr : rowsOf a = some (s, rows)) (hs : Nat.beq s j.size = true) {k : IntKind} {z : Int} (hz : aeval X env ix = some (.c (.int k z)))
    (m : Nat) (hm : z = m) {r : CV} (hrow : rows[m]? = some r) {cs : List CV} (hcs : r.cells = cs) (k : AOps P X ops rest ((d, .c (.ip cs)) :: env) σ (⟨[], []⟩ :: acc) Q) :
    AOps P X ops (o :: rest) env σ acc Q := by
  subst hcs
  exact AOps.step (guard_in hg) (OpSem.index hX ho hi hk hj ha hr hs hz hm hrow) (EffOk.id _) (by rw [hd]; exact k)
end
end Go.Abs

namespace Go.Abs

/-- May a value be a row of so many cells? -/
def rowShape (s : Nat) (v : CV) : Bool := match v with
  | .tup _ => false
  | .undef => false
  | .agg cs => Nat.beq cs.length s
  | _ => Nat.beq 1 s

def rowsShape (s : Nat) : List CV → Bool
  | [] => true
  | v :: l => match rowShape s v with
    | true => rowsShape s l
    | false => false

theorem rowShape_ok {s : Nat} {v : CV} (h : rowShape s v = true) {G : Imm} {u : Value} (hr : Rel G v u) : v.cells.length = s ∧ RelL G v.cells u.cells.toList ∧ v.cells.all CV.one = true := by
  have one : ∀ (v : CV) (u : Value), v.one = true → Rel G v u → u.cells.toList = [u] := by
    intro v u ho hr
    cases v <;> simp only [Rel] at hr <;> simp [CV.one] at ho
    case int => subst hr; rfl
    case bool => subst hr; rfl
    case str => subst hr; rfl
    case nilp => subst hr; rfl
    case sl => obtain ⟨_, _, _, rfl, _⟩ := hr; rfl
    case ip => obtain ⟨_, _, rfl, _⟩ := hr; rfl
    case clo => obtain ⟨_, rfl, _⟩ := hr; rfl
    case any => cases u <;> first | rfl | exact absurd rfl (hr.1 _)
    case abool => obtain ⟨_, rfl⟩ := hr; rfl
  have fin : ∀ (v : CV), v.one = true → v.cells = [v] → Rel G v u → Nat.beq 1 s = true → v.cells.length = s ∧ RelL G v.cells u.cells.toList ∧ v.cells.all CV.one = true := by
    intro v ho hc hr hs
    rw [hc, one v u ho hr]
    exact ⟨beq_true hs, by simp only [RelL]; exact ⟨u, [], rfl, hr, rfl⟩, by simp [ho]⟩
  cases v with
  | tup => simp [rowShape] at h
  | undef => simp [rowShape] at h
  | agg cs =>
    simp only [rowShape] at h
    simp only [Rel] at hr
    obtain ⟨vs, rfl, h1, h2⟩ := hr
    exact ⟨beq_true h, by simpa [CV.cells, Value.cells] using h1, h2⟩
  | int => exact fin _ rfl rfl hr h
  | bool => exact fin _ rfl rfl hr h
  | str => exact fin _ rfl rfl hr h
  | nilp => exact fin _ rfl rfl hr h
  | sl => exact fin _ rfl rfl hr h
  | ip => exact fin _ rfl rfl hr h
  | clo => exact fin _ rfl rfl hr h
  | any => exact fin _ rfl rfl hr h
  | abool => exact fin _ rfl rfl hr h

theorem rowsShape_mem {s : Nat} : ∀ {l : List CV}, rowsShape s l = true → ∀ v ∈ l, rowShape s v = true
  | [], _, v, h => by simp at h
  | x :: l, h, v, hv => by
    simp only [rowsShape] at h
    split at h
    · rename_i hx
      rcases List.mem_cons.1 hv with rfl | hv
      · exact hx
      · exact rowsShape_mem h v hv
    · simp at h

/-- Rows of values, cell by cell. -/
def flat (s : Nat) : List Value → List Value
  | [] => []
  | v :: l => v.cells.toList ++ flat s l

/-- The rows' values lie at block and offset. -/
theorem RowsG.of_flat {G : Imm} {s b : Nat} : ∀ {rows : List CV} {vs : List Value} {o : Nat}, rowsShape s rows = true → RelL G rows vs → (∀ (j : Nat) u, (flat s vs)[j]? = some u → G b (o + j) = some u) → RowsG G s b o rows
  | [], vs, o, _, _, _ => by simp [RowsG]
  | r :: rows, vs, o, hs, hr, hG => by
    simp only [rowsShape] at hs
    split at hs
    · rename_i hr1
      simp only [RelL] at hr
      obtain ⟨u, us, rfl, h1, h2⟩ := hr
      obtain ⟨c1, c2, c3⟩ := rowShape_ok hr1 h1
      obtain ⟨l1, l2⟩ := RelL.get c2
      simp only [flat] at hG
      simp only [RowsG]
      refine ⟨(rowG_iff G b o r).2 (CellsG.of_get fun j c hj => ?_), c1, RowsG.of_flat hs h2 fun j u' hu => ?_⟩
      · obtain ⟨u', e1, e2⟩ := l2 j c hj
        refine ⟨u', hG j u' ?_, e2, ?_⟩
        · rw [List.getElem?_append_left (List.getElem?_eq_some_iff.1 e1).1]; exact e1
        · rw [List.all_eq_true] at c3; exact c3 c (List.mem_of_getElem? hj)
      · have := hG (s + j) u' (by rw [List.getElem?_append_right (by omega)]; rw [show s + j - u.cells.toList.length = j from by omega]; exact hu)
        rwa [show o + (s + j) = o + s + j from by omega] at this
    · simp at hs

section
variable {P : Program} {X : Ctx}

/-- A new block whose cells nobody writes. -/
theorem newImm {w : World} {g : Gh} {σ : St} (hinv : Inv w g σ) (us : Array Value) (t : TypeId) :
    let g' : Gh := ⟨fun b o => if b = w.heap.size then us[o]? else g.G b o, g.box, g.tok, g.room⟩
    let w' : World := { w with heap := w.heap.push (.cells us t) }
    Inv w' g' σ ∧ Keep w g σ w' g' σ ∧ g.le g' := by
  intro g' w'
  have hold : ∀ b o, b < w.heap.size → w'.cell? ⟨b, o, none⟩ = w.cell? ⟨b, o, none⟩ ∧ w'.frozen? ⟨b, o, none⟩ = w.frozen? ⟨b, o, none⟩ := by
    intro b o hb
    exact ⟨World.cell?_alloc_old w _ ⟨b, o, none⟩ (by show b ≠ w.heap.size; omega), World.frozen?_alloc_old w _ ⟨b, o, none⟩ (by show b ≠ w.heap.size; omega)⟩
  have hsz : w'.heap.size = w.heap.size + 1 := by simp [w']
  have hGlt : ∀ b o v, g.G b o = some v → b < w.heap.size := fun b o v h => World.block_lt_of_cell? w ⟨b, o, none⟩ (hinv.imm b o v h)
  have hle : g.le g' := by
    refine ⟨fun b o v h => ?_, fun _ _ h => h, fun _ _ _ => rfl, fun k hw reg h => ⟨hw, reg, h, Nat.le_refl _, fun _ => rfl⟩⟩
    have := hGlt b o v h
    simp only [g']; rw [if_neg (by omega)]; exact h
  have hGsame : ∀ b o, b < w.heap.size → g'.G b o = g.G b o := by
    intro b o hb; simp only [g']; rw [if_neg (by omega)]
  refine ⟨⟨?_, ?_, hinv.boxinj, ?_, hinv.tokinj, hinv.used, hinv.room_same fun k cs b _ _ hb o => hold b o hb⟩, ⟨rfl, rfl, rfl, by omega, fun b hb _ => by show (w.heap.push _)[b]? = _; rw [Array.getElem?_push, if_neg (by omega)], fun b o hb _ => hold b o hb, hle.1, ?_, ?_, ?_, ?_⟩, hle⟩
  · intro b o v h
    simp only [g'] at h
    split at h
    · rename_i hb; subst hb
      have := World.cell?_alloc_new w us t o
      rw [show (w.alloc (.cells us t)) = w' from rfl] at this
      rw [this]; exact h
    · rw [(hold b o (hGlt b o v h)).1]; exact hinv.imm b o v h
  · intro k cs e
    obtain ⟨b, h1, h2, h3, h4⟩ := hinv.box k cs e
    exact ⟨b, h1, by omega, fun o => by rw [hGsame b o h2]; exact h3 o, (CellsW.of_same (fun o => hold b o h2) h4).mono hle⟩
  · intro k n e
    obtain ⟨reg, h1, h2⟩ := hinv.tok k n e
    refine ⟨reg, h1, fun b lo hi hr => ?_⟩
    obtain ⟨h3, h4, h5⟩ := h2 b lo hi hr
    refine ⟨by omega, fun o ho1 ho2 => ?_, h5⟩
    obtain ⟨h6, ⟨u, h7⟩, h8⟩ := h4 o ho1 ho2
    exact ⟨by rw [hGsame b o h3]; exact h6, ⟨u, (hold b o h3).1.trans h7⟩, (hold b o h3).2.trans h8⟩
  · intro b o v h
    simp only [g'] at h
    split at h
    · rename_i hb; right; left; omega
    · exact .inl h
  · exact fun k cs b h1 h2 => .inr ⟨k, cs, h1, h2⟩
  · exact fun k n b lo hi h1 h2 => .inr ⟨k, n, lo, hi, h1, h2, Nat.le_refl _, Nat.le_refl _⟩
  · exact fun k _ h => ⟨h, rfl, rfl⟩

/-- The parts of a slice that is written out, in their order. -/
def partRows (ρ : Operand → Option AV) : Nat → List (Nat × Operand) → Option (List CV)
  | _, [] => some []
  | i, (j, x) :: l => match Nat.beq j i, ρ x with
    | true, some a => match close a with
      | some v => match partRows ρ (i + 1) l with
        | some r => some (v :: r)
        | none => none
      | none => none
    | _, _ => none

theorem partRows_congr {ρ ρ1 : Operand → Option AV} : ∀ (l : List (Nat × Operand)) (i : Nat), (∀ p ∈ l, ρ1 p.2 = ρ p.2) → partRows ρ1 i l = partRows ρ i l
  | [], _, _ => rfl
  | (j, x) :: l, i, h => by
    simp only [partRows, h (j, x) (by simp), partRows_congr l (i + 1) (fun p hp => h p (by simp [hp]))]

theorem partRows_ok {g : Gh} {ρ : Operand → Option AV} {ev : Operand → Value} (hρ : ∀ x v, ρ x = some v → RelA g v (ev x)) : ∀ {l : List (Nat × Operand)} {i : Nat} {rows : List CV},
    partRows ρ i l = some rows → RelL g.G rows (l.map fun p => ev p.2) ∧ (l.map fun (j, x) => (j, ev x)) = ((l.map fun p => ev p.2).zipIdx i).map fun (v, j) => (j, v)
  | [], i, rows, h => by simp [partRows] at h; subst h; simp [RelL]
  | (j, x) :: l, i, rows, h => by
    simp only [partRows] at h
    split at h
    · rename_i a hj hx
      split at h
      · rename_i v hv
        split at h
        · rename_i r hr
          simp at h; subst h
          obtain ⟨h1, h2⟩ := partRows_ok hρ hr
          have := beq_true hj; subst this
          refine ⟨by simp only [List.map_cons, RelL]; exact ⟨_, _, rfl, (close_ok a v _ hv (hρ x a hx)).1, h1⟩, ?_⟩
          simp only [List.map_cons, List.zipIdx_cons, h2]
        · simp at h
      · simp at h
    · simp at h

theorem fill_rows (s : Nat) : ∀ (vals : List Value) (k : Nat) (arr : Array Value), (∀ v ∈ vals, v.cells.size = s) → (k + vals.length) * s ≤ arr.size →
    ∃ res, Instr.fill (fun i => some (i * s, s)) arr ((vals.zipIdx k).map fun (v, j) => (j, v)) = some res ∧ res.size = arr.size ∧
      ∀ (j : Nat), res[j]? = if k * s ≤ j ∧ j < k * s + (flat s vals).length then (flat s vals)[j - k * s]? else arr[j]?
  | [], k, arr, _, _ => ⟨arr, by simp [Instr.fill], rfl, fun j => by simp [flat]; intros; omega⟩
  | v :: vals, k, arr, h1, h2 => by
    have hv := h1 v (by simp)
    have hks : (k + 1) * s = k * s + s := Nat.succ_mul k s
    have h2' : (k + 1 + vals.length) * s ≤ arr.size := by simp at h2; rwa [show k + 1 + vals.length = k + (vals.length + 1) from by omega]
    have hfit : k * s + s ≤ arr.size := by
      have : (k + 1) * s ≤ (k + 1 + vals.length) * s := Nat.mul_le_mul_right s (by omega)
      omega
    obtain ⟨f1, f2⟩ := fold_set (k * s) v.cells.toList 0 arr (by simp; omega)
    obtain ⟨res, r1, r2, r3⟩ := fill_rows s vals (k + 1) _ (fun x hx => h1 x (by simp [hx])) (by rw [f1]; exact h2')
    refine ⟨res, ?_, by rw [r2, f1], fun j => ?_⟩
    · simp only [List.zipIdx_cons, List.map_cons, Instr.fill]
      rw [if_neg (by simp; omega)]
      have hfold : v.cells.zipIdx.foldl (fun cs (c, j) => cs.setIfInBounds (k * s + j) c) arr =
          (v.cells.toList.zipIdx 0).foldl (fun (cs : Array Value) (p : Value × Nat) => cs.setIfInBounds (k * s + p.2) p.1) arr := by
        rw [← Array.foldl_toList]; simp
      rw [hfold]; exact r1
    · rw [r3, f2]
      have hl : v.cells.toList.length = s := by simpa using hv
      simp only [flat, List.length_append, hks, hl, Nat.add_zero]
      by_cases c1 : k * s + s ≤ j ∧ j < k * s + s + (flat s vals).length
      · rw [if_pos c1, if_pos (by omega), List.getElem?_append_right (by omega)]
        congr 1; omega
      · rw [if_neg c1]
        by_cases c2 : k * s ≤ j ∧ j < k * s + s
        · rw [if_pos c2, if_pos (by omega), List.getElem?_append_left (by omega)]
        · rw [if_neg c2, if_neg (by omega)]

/-- A slice that is written out. -/
theorem OpSem.buildSlice (hX : CtxOk P X) {o : Oper} {env : Env} {σ : St} {t : TypeId} {len : Nat} {parts : Array (Nat × Operand)} (ho : o.op = .buildSlice t len parts)
    {i j : TI} {e : Nat} (hi : X.ti t = some i) (hk : i.kind = .slice e) (hj : X.ti e = some j) {za : AV} (hz : j.zero = some za) {rows : List CV} (hp : partRows (aeval X env) 0 parts.toList = some rows)
    (hl : Nat.beq rows.length len = true) (hs : rowsShape j.size rows = true) (hb : Nat.ble (len * j.size) 16777216 = true) :
    OpSem P X o env σ (.own .exact j.size rows) (fun σ => σ) ⟨[], []⟩ := by
  intro env1 σ1 w g act next Q h1 h2 hinv hglob henv hnext
  have hp' : partRows (aeval X env1) 0 parts.toList = some rows := by
    rw [partRows_congr _ _ (fun p hp => h1 p.2 (by rw [ho]; simp only [Op.operands, List.mem_map]; exact ⟨p, hp, rfl⟩))]; exact hp
  obtain ⟨c1, c2⟩ := partRows_ok (g := g) (ev := act.eval) (fun x v hx => aeval_ok henv hglob hx) hp'
  have hlen := beq_true hl
  have hne : j.size ≠ 0 := by obtain ⟨_, _, _, _, _, _, hh⟩ := hX.ti e j hj; exact hh
  obtain ⟨d, hd1, hd2, _⟩ := hX.run_underlying (w := w) hi
  rw [hk] at hd2; simp only [KindOk] at hd2; subst hd2
  obtain ⟨z, z1, z2, z3⟩ := hX.run_zeroValue (w := w) hj hz
  have hcs : ∀ v ∈ (parts.toList.map fun p => act.eval p.2), v.cells.size = j.size := by
    intro v hv
    obtain ⟨m, hm⟩ := List.getElem?_of_mem hv
    obtain ⟨l1, l2⟩ := RelL.get c1
    have hml : m < rows.length := by rw [l1]; exact (List.getElem?_eq_some_iff.1 hm).1
    obtain ⟨u, e1, e2⟩ := l2 m rows[m] (by simp [hml])
    rw [hm] at e1; simp at e1; subst e1
    obtain ⟨a1, a2, _⟩ := rowShape_ok (rowsShape_mem hs rows[m] (List.getElem_mem hml)) e2
    have := (RelL.get a2).1
    simp at this; omega
  have hvl : (parts.toList.map fun p => act.eval p.2).length = len := by rw [← (RelL.get c1).1]; exact hlen
  obtain ⟨res, r1, r2, r3⟩ := fill_rows j.size (parts.toList.map fun p => act.eval p.2) 0 ((Array.range (len * j.size)).map (z.cells[· % z.cells.size]!)) hcs (by simp at hvl ⊢; rw [hvl]; exact Nat.le_refl _)
  have hrun : (execOp act.eval o).run P w = .ok (.value (.slice (some ⟨w.heap.size, 0, none⟩) len len)) { w with heap := w.heap.push (.cells res e) } := by
    obtain ⟨dst, op, type, pos, after, guard⟩ := o
    simp only at ho; subst ho
    have hbb : ¬ (2 ^ 24 < len * j.size) := by have := Nat.le_of_ble_eq_true hb; omega
    have hfill : ∀ zc : Array Value, (Array.range (len * j.size)).map (fun x => zc[x % zc.size]!) = (Array.range (len * j.size)).map (fun x => z.cells[x % z.cells.size]!) →
        Instr.fill (fun i => some (i * j.size, j.size)) ((Array.range (len * j.size)).map (fun x => zc[x % zc.size]!)) (parts.map fun x => (x.1, act.eval x.2)).toList = some res := by
      intro zc q2
      rw [q2, Array.toList_map]
      have c2' : (parts.toList.map fun x => (x.1, act.eval x.2)) = _ := c2
      rw [c2']; exact r1
    simp only [execOp, Instr.buildSlice, Sem.run_bind, hd1, Result.andThen_ok, hX.run_sizeOf hj]
    rw [if_neg (by simpa using hbb)]
    by_cases h0 : len * j.size = 0
    · rw [if_pos h0]
      simp only [Sem.run_bind, Sem.run_pure, Result.andThen_ok]
      rw [hfill #[] (by rw [h0]; simp)]
      simp [newRow]
    · rw [if_neg h0]
      simp only [Sem.run_bind, Sem.run_pure, Result.andThen_ok, z1]
      rw [hfill z.cells rfl]
      simp [newRow]
  unfold Oper.wp
  rw [hrun, Oper.upon_value]
  obtain ⟨i1, i2, i3⟩ := newImm hinv res e
  refine hnext _ _ _ ?_ i1 i2 i3
  simp only [RelA]
  refine ⟨_, _, _, rfl, hlen.symm, Nat.le_refl _, ?_, rfl⟩
  right
  refine ⟨w.heap.size, 0, rfl, RowsG.of_flat hs (RelL.mono i3.1 _ _ c1) fun m u hu => ?_⟩
  simp only [if_true, Nat.zero_add]
  have hm : m < (flat j.size (parts.toList.map fun p => act.eval p.2)).length := (List.getElem?_eq_some_iff.1 hu).1
  rw [r3 m, if_pos (by omega)]
  simpa using hu

end

section
variable {P : Program} {X : Ctx} {ops : Array Oper} {o : Oper} {rest : List Oper} {env : Env} {σ : St} {acc : List Fp} {Q : Env → St → List Fp → Prop}

theorem AOps.buildSlice (hX : CtxOk P X) (kn : List Nat) (hg : aguard ops.toList kn env o = some true) {t : TypeId} {len : Nat} {parts : Array (Nat × Operand)} (ho : o.op = .buildSlice t len parts) {d : Nat} (hd : o.dst = some d)
    {i j : TI} {e : Nat} (hi : X.ti t = some i) (hk : i.kind = .slice e) (hj : X.ti e = some j) {za : AV} (hz : j.zero = some za) {rows : List CV} (hp : partRows (aeval X env) 0 parts.toList = some rows)
    (hl : Nat.beq rows.length len = true) {s : Nat} (hsz : j.size = s) (hs : rowsShape s rows = true) (hb : Nat.ble (len * s) 16777216 = true)
    (k : AOps P X ops rest ((d, .own .exact s rows) :: env) σ (⟨[], []⟩ :: acc) Q) : AOps P X ops (o :: rest) env σ acc Q := by
  subst hsz
  exact AOps.step (guard_in hg) (OpSem.buildSlice hX ho hi hk hj hz hp hl hs hb) (EffOk.id _) (by rw [hd]; exact k)
end
end Go.Abs

namespace Go.Abs
open Go.ChangeShapes Go.WideShapes Go.RowKit

/-- All that stands in a world, taken as immutable. -/
def ImmOf (w : World) : Imm := fun b o => w.cell? ⟨b, o, none⟩

section
variable {H : Type} {enc : TypeId × Value → H} {P : Program} {W : World} {B : DataW H → Nat}

/-- Whatever reads as a value of the type is a closed value of which R speaks, with its bulk. -/
def RD (enc : TypeId × Value → H) (P : Program) (W : World) (B : DataW H → Nat) (n : Nat) (t : TypeId) (R : CV → Nat → Prop) : Prop :=
  ∀ fuel, fuel ≤ n → ∀ cs x, DataW.trod enc P W 0 (fun _ => true) true fuel t cs = some x →
    ∃ c : CV, RelL (ImmOf W) c.cells cs ∧ c.cells.all CV.one = true ∧ R c (B x.1)

theorem RD.mono {n m : Nat} {t : TypeId} {R R' : CV → Nat → Prop} (h : RD enc P W B n t R) (hm : m ≤ n) (hR : ∀ c k, R c k → R' c k) : RD enc P W B m t R' :=
  fun fuel hf cs x hx => by
    obtain ⟨c, h1, h2, h3⟩ := h fuel (Nat.le_trans hf hm) cs x hx
    exact ⟨c, h1, h2, hR _ _ h3⟩

theorem RD.zero {t : TypeId} {R : CV → Nat → Prop} : RD enc P W B 0 t R := fun fuel hf cs x hx => by
  obtain rfl : fuel = 0 := by omega
  simp [DataW.trod] at hx

structure BulkOk (B : DataW H → Nat) : Prop where
  lit : ∀ l, 1 ≤ B (.lit l)
  str : ∀ s, s.length + 1 ≤ B (.lit (.string s))
  nil : 1 ≤ B .nil
  slice : ∀ l r, (l.map B).sum + 1 ≤ B (.slice l r)
  agg : ∀ l, (l.map B).sum + 1 ≤ B (.agg l)

theorem RD.int (hB : BulkOk B) {n : Nat} {t : TypeId} {k : IntKind} (hu : P.underlying t = some (.int k)) :
    RD enc P W B n t fun c m => ∃ z, c = .int k z ∧ (Lit.int k z).wf = true ∧ 1 ≤ m := fun fuel hf cs x hx => by
  obtain ⟨z, rfl, rfl, hw⟩ := DataW.trod_int hu hx
  exact ⟨.int k z, by simp [CV.cells, RelL, Rel], by simp [CV.cells, CV.one], z, rfl, hw, hB.lit _⟩

theorem RD.bool (hB : BulkOk B) {n : Nat} {t : TypeId} (hu : P.underlying t = some .bool) :
    RD enc P W B n t fun c m => ∃ z, c = .bool z ∧ 1 ≤ m := fun fuel hf cs x hx => by
  obtain ⟨z, rfl, rfl⟩ := DataW.trod_bool hu hx
  exact ⟨.bool z, by simp [CV.cells, RelL, Rel], by simp [CV.cells, CV.one], z, rfl, hB.lit _⟩

theorem RD.str (hB : BulkOk B) {n : Nat} {t : TypeId} (hu : P.underlying t = some .string) :
    RD enc P W B n t fun c m => ∃ s, c = .str s ∧ s.length + 1 ≤ m := fun fuel hf cs x hx => by
  obtain ⟨s, rfl, rfl, hw⟩ := DataW.trod_string hu hx
  exact ⟨.str s.data.toList, by simp [CV.cells, RelL, Rel], by simp [CV.cells, CV.one], _, rfl, hB.str _⟩

/-- What a slice reads as. -/
def RowsR (R : CV → Nat → Prop) : List CV → Nat → Prop
  | [], m => 0 ≤ m
  | r :: rs, m => ∃ k m', R r k ∧ RowsR R rs m' ∧ k + m' ≤ m

theorem RowsR.le {R : CV → Nat → Prop} : ∀ {l : List CV} {m m' : Nat}, RowsR R l m → m ≤ m' → RowsR R l m'
  | [], _, _, _, _ => Nat.zero_le _
  | _ :: _, _, _, ⟨k, m1, h1, h2, h3⟩, hm => ⟨k, m1, h1, h2, Nat.le_trans h3 hm⟩

theorem RD.slice (hB : BulkOk B) {n : Nat} {t e : TypeId} {s : Nat} (hu : P.underlying t = some (.slice e)) (hs : P.cellsOf e = s) (h0 : 0 < s) {R : CV → Nat → Prop} (h : RD enc P W B n e R) :
    RD enc P W B (n + 1) t fun c m => ∃ rows, c = .sl s rows ∧ ∃ m', RowsR R rows m' ∧ m' + 1 ≤ m := fun fuel hf cs x hx => by
  subst hs
  rcases DataW.trod_slice hu hx with ⟨rfl, rfl⟩ | ⟨a, len, cap, elems, rest, n', rfl, rfl, rfl, _, hl, hc, hlen, hel, _, _⟩
  · refine ⟨.sl _ [], ?_, by simp [CV.cells, CV.one], [], rfl, 0, Nat.le_refl _, by simpa using hB.nil⟩
    simp only [CV.cells, RelL]
    refine ⟨_, _, rfl, ?_, rfl⟩
    simp only [Rel]
    exact ⟨none, 0, 0, rfl, rfl, Nat.le_refl _, .inl trivial⟩
  · have hs : elems = [] ∨ ∃ b o, a = ⟨b, o, none⟩ := by
      cases elems with
      | nil => exact .inl rfl
      | cons y l =>
        right
        have h0' := hel 0 (by simp at hlen; omega)
        simp only [List.getElem?_cons_zero, Option.bind_eq_some_iff] at h0'
        obtain ⟨vs, hvs, hy⟩ := h0'
        obtain ⟨_, hvl, hcell⟩ := World.cells?_some hvs
        obtain ⟨b, o, spot⟩ := a
        have g0 := hcell 0 h0
        obtain ⟨v0, hv0⟩ : ∃ v0, vs[0]? = some v0 := by
          cases vs with
          | nil => simp at hvl; omega
          | cons v _ => exact ⟨v, rfl⟩
        rw [hv0] at g0
        have h9 := World.cell?_spot g0
        have hspot : spot = none := by simpa [Addr.add] using h9
        exact ⟨b, o, by rw [hspot]⟩
    have key : ∀ (b o : Nat), a = ⟨b, o, none⟩ → ∀ (l : List (DataW H × List MemPlace)) (k : Nat), (∀ i, i < l.length → (W.cells? 0 (a.add ((k + i) * P.cellsOf e)) (P.cellsOf e)).bind (DataW.trod enc P W 0 (fun _ => true) true n' e) = l[i]?) →
        ∃ rows, rows.length = l.length ∧ RowsR R rows ((l.map fun x => B x.1).sum) ∧ RowsG (ImmOf W) (P.cellsOf e) b (o + k * P.cellsOf e) rows := by
      intro b o hab l
      subst hab
      induction l with
      | nil => intro k _; exact ⟨[], rfl, by simp [RowsR], by simp [RowsG]⟩
      | cons y l ih =>
        intro k hk
        obtain ⟨rows, h1, h2, h4⟩ := ih (k + 1) fun i hi => by
          have := hk (i + 1) (by simp; omega)
          rw [show k + 1 + i = k + (i + 1) from by omega]; simpa using this
        have h0' := hk 0 (by simp)
        simp only [Nat.add_zero, List.getElem?_cons_zero, Option.bind_eq_some_iff] at h0'
        obtain ⟨vs, hvs, hy⟩ := h0'
        obtain ⟨c, c1, c2, c3⟩ := h n' (by omega) vs y hy
        obtain ⟨_, hvl, hcell⟩ := World.cells?_some hvs
        refine ⟨c :: rows, by simp [h1], ⟨_, _, c3, h2, by simp⟩, ?_⟩
        simp only [RowsG]
        refine ⟨(rowG_iff _ _ _ _).2 (CellsG.of_get fun j cj hj => ?_), by rw [(RelL.get c1).1, hvl], ?_⟩
        · obtain ⟨u, hu1, hu2⟩ := (RelL.get c1).2 j cj hj
          refine ⟨u, ?_, hu2, List.all_eq_true.1 c2 cj (List.mem_of_getElem? hj)⟩
          have hjl : j < P.cellsOf e := by rw [← hvl]; exact (List.getElem?_eq_some_iff.1 hu1).1
          have := hcell j hjl
          rw [add_plain, add_plain] at this
          rw [ImmOf, this, hu1]
        · rwa [show o + (k + 1) * P.cellsOf e = o + k * P.cellsOf e + P.cellsOf e from by rw [Nat.succ_mul]; omega] at h4
    have hBs : (elems.map fun x => B x.1).sum + 1 ≤ B (.slice (elems.map (·.1)) (rest.map (·.1))) := by
      have := hB.slice (elems.map (·.1)) (rest.map (·.1)); rwa [List.map_map] at this
    rcases hs with rfl | ⟨b, o, rfl⟩
    · refine ⟨.sl _ [], ?_, by simp [CV.cells, CV.one], [], rfl, 0, Nat.le_refl _, by simpa using hBs⟩
      simp only [CV.cells, RelL]
      refine ⟨_, _, rfl, ?_, rfl⟩
      simp only [Rel]
      exact ⟨_, _, _, rfl, by simpa using hlen.symm, hl, .inl trivial⟩
    · obtain ⟨rows, h1, h2, h4⟩ := key b o rfl elems 0 fun i hi => by rw [Nat.zero_add]; exact hel i (by omega)
      refine ⟨.sl _ rows, ?_, by simp [CV.cells, CV.one], rows, rfl, _, h2, hBs⟩
      simp only [CV.cells, RelL]
      refine ⟨_, _, rfl, ?_, rfl⟩
      simp only [Rel]
      exact ⟨_, _, _, rfl, by omega, hl, .inr ⟨b, o, rfl, by simpa using h4⟩⟩

/-- What the fields of a struct read as. -/
def FieldsR : List (CV → Nat → Prop) → List CV → Nat → Prop
  | [], l, _ => l = []
  | R :: Rs, l, m => ∃ c k l' m', l = c.cells ++ l' ∧ R c k ∧ FieldsR Rs l' m' ∧ k + m' ≤ m

/-- Types and readings of the fields, one behind the other. -/
def FieldsD (enc : TypeId × Value → H) (P : Program) (W : World) (B : DataW H → Nat) (n : Nat) : Nat → List (Nat × TypeId) → List (CV → Nat → Prop) → Prop
  | o, [], Rs => Rs = []
  | o, (o', t) :: fs, Rs => ∃ R Rs', Rs = R :: Rs' ∧ o' = o ∧ RD enc P W B n t R ∧ FieldsD enc P W B n (o + P.cellsOf t) fs Rs'

def fieldsEnd (P : Program) : Nat → List (Nat × TypeId) → Nat
  | o, [] => o
  | o, (_, t) :: fs => fieldsEnd P (o + P.cellsOf t) fs

theorem fields_read {n : Nat} {cs : List Value} : ∀ (fs : List (Nat × TypeId)) (o : Nat) (Rs : List (CV → Nat → Prop)) (xs : List (DataW H × List MemPlace)), FieldsD enc P W B n o fs Rs →
    (∀ (i : Nat) (o' : Nat) (t : TypeId), fs[i]? = some (o', t) → DataW.trod enc P W 0 (fun _ => true) true n t ((cs.drop o').take (P.cellsOf t)) = xs[i]?) → xs.length = fs.length → cs.length = fieldsEnd P o fs →
    ∃ l, RelL (ImmOf W) l (cs.drop o) ∧ l.all CV.one = true ∧ FieldsR Rs l ((xs.map fun x => B x.1).sum)
  | [], o, Rs, xs, hd, hx, hl, he => by
    simp only [FieldsD] at hd; subst hd
    simp only [fieldsEnd] at he
    exact ⟨[], by simp [RelL, he], by simp, by simp [FieldsR]⟩
  | (o', t) :: fs, o, Rs, [], hd, hx, hl, he => by simp at hl
  | (o', t) :: fs, o, Rs, x :: xs, hd, hx, hl, he => by
    simp only [FieldsD] at hd
    obtain ⟨R, Rs', rfl, rfl, hR, hd⟩ := hd
    simp only [fieldsEnd] at he
    have h0 := hx 0 o' t (by simp)
    simp only [List.getElem?_cons_zero] at h0
    obtain ⟨c, c1, c2, c3⟩ := hR n (Nat.le_refl _) _ _ h0
    obtain ⟨l, l1, l2, l3⟩ := fields_read fs _ Rs' xs hd (fun i o2 t2 hi => by simpa using hx (i + 1) o2 t2 (by simpa using hi)) (by simpa using hl) he
    refine ⟨c.cells ++ l, ?_, by rw [List.all_append, c2, l2]; rfl, c, _, l, _, rfl, c3, l3, by simp⟩
    have := relL_append c1 l1
    rwa [← List.drop_drop, List.take_append_drop] at this

theorem RD.struct (hB : BulkOk B) {n : Nat} {t : TypeId} {fs : Array Field} (hu : P.underlying t = some (.struct fs)) {fl : List (Nat × TypeId)} (hfl : fs.toList.map (fun f => (f.offset, f.type)) = fl)
    {Rs : List (CV → Nat → Prop)} (hd : ∀ m, m ≤ n → FieldsD enc P W B m 0 fl Rs) (he : P.cellsOf t = fieldsEnd P 0 fl) :
    RD enc P W B (n + 1) t fun c m => ∃ l, c = .agg l ∧ ∃ m', FieldsR Rs l m' ∧ m' + 1 ≤ m := fun fuel hf cs x hx => by
  obtain ⟨xs, n', rfl, rfl, hl, hxl, hget⟩ := DataW.trod_struct hu hx
  subst hfl
  obtain ⟨l, l1, l2, l3⟩ := fields_read (cs := cs) _ 0 Rs xs (hd n' (by omega)) (fun i o' t' hi => by
    simp only [List.getElem?_map, Option.map_eq_some_iff] at hi
    obtain ⟨f, hf, he⟩ := hi
    simp only [Prod.mk.injEq] at he
    obtain ⟨rfl, rfl⟩ := he
    exact hget i f (by simpa using hf)) (by simpa using hxl) (hl.trans he)
  refine ⟨.agg l, by simpa [CV.cells] using l1, by simpa [CV.cells] using l2, l, rfl, _, l3, ?_⟩
  have := hB.agg (xs.map (·.1)); rwa [List.map_map] at this

/-- An array of elements. -/
def ElemsR (R : CV → Nat → Prop) : Nat → List CV → Nat → Prop
  | 0, l, _ => l = []
  | n + 1, l, m => ∃ c k l' m', l = c.cells ++ l' ∧ R c k ∧ ElemsR R n l' m' ∧ k + m' ≤ m

theorem RD.array (hB : BulkOk B) {n : Nat} {t e : TypeId} {len : Nat} (hu : P.underlying t = some (.array len e)) (he : P.cellsOf t = len * P.cellsOf e) {R : CV → Nat → Prop} (h : RD enc P W B n e R) :
    RD enc P W B (n + 1) t fun c m => ∃ l, c = .agg l ∧ ∃ m', ElemsR R len l m' ∧ m' + 1 ≤ m := fun fuel hf cs x hx => by
  have hx' : ∃ (xs : List (DataW H × List MemPlace)) (m : Nat), fuel = m + 1 ∧ x = (.agg (xs.map (·.1)), xs.flatMap (·.2)) ∧ cs.length = P.cellsOf t ∧ xs.length = len ∧
      ∀ (i : Nat), i < len → DataW.trod enc P W 0 (fun _ => true) true m e ((cs.drop (i * P.cellsOf e)).take (P.cellsOf e)) = xs[i]? := by
    cases fuel with
    | zero => simp [DataW.trod] at hx
    | succ m =>
      unfold DataW.trod at hx
      rw [hu] at hx
      split at hx <;> simp_all
      obtain ⟨hl, xs, hp, hd⟩ := hx
      exact ⟨xs, hd.symm, by simpa using mapM_some_length hp, fun i hi => mapM_some_get hp i i (by simp [hi])⟩
  obtain ⟨xs, m, rfl, rfl, hl, hxl, hget⟩ := hx'
  have key : ∀ (ys : List (DataW H × List MemPlace)) (k : Nat), (∀ i, i < ys.length → DataW.trod enc P W 0 (fun _ => true) true m e ((cs.drop ((k + i) * P.cellsOf e)).take (P.cellsOf e)) = ys[i]?) → cs.length = (k + ys.length) * P.cellsOf e →
      ∃ l, RelL (ImmOf W) l (cs.drop (k * P.cellsOf e)) ∧ l.all CV.one = true ∧ ElemsR R ys.length l ((ys.map fun x => B x.1).sum) := by
    intro ys
    induction ys with
    | nil => intro k _ hk; exact ⟨[], by simp only [RelL, List.drop_eq_nil_iff]; simp at hk; omega, by simp, by simp [ElemsR]⟩
    | cons y ys ih =>
      intro k hk hle
      obtain ⟨l, l1, l2, l3⟩ := ih (k + 1) (fun i hi => by
        have := hk (i + 1) (by simp; omega)
        rw [show k + 1 + i = k + (i + 1) from by omega]; simpa using this) (by rw [hle]; congr 1; simp; omega)
      have h0 := hk 0 (by simp)
      simp only [Nat.add_zero, List.getElem?_cons_zero] at h0
      obtain ⟨c, c1, c2, c3⟩ := h m (by omega) _ _ h0
      refine ⟨c.cells ++ l, ?_, by rw [List.all_append, c2, l2]; rfl, c, _, l, _, rfl, c3, l3, by simp⟩
      have := relL_append c1 l1
      rwa [Nat.succ_mul, ← List.drop_drop, List.take_append_drop] at this
  obtain ⟨l, l1, l2, l3⟩ := key xs 0 (fun i hi => by rw [Nat.zero_add]; exact hget i (by omega)) (by rw [hl, he, hxl, Nat.zero_add])
  rw [hxl] at l3
  refine ⟨.agg l, by simpa [CV.cells] using l1, by simpa [CV.cells] using l2, l, rfl, _, l3, ?_⟩
  have := hB.agg (xs.map (·.1)); rwa [List.map_map] at this

/-- One argument. -/
theorem rel_of_trod_agg {R : CV → Nat → Prop} {t : TypeId} {v : Value} {d : DataW H} {ps : List MemPlace} {b0 : Nat} {r : Reach} {fs : Array Field} (hu : P.underlying t = some (.struct fs)) (hRD : ∀ n, RD enc P W B n t R)
    (hd : DataW.Trod enc P W 0 (fun _ => true) true t v d ps) (hok : Value.okWide P W r b0 t v) (hR : ∀ c k, R c k → ∃ l, c = .agg l) : ∃ c, Rel (ImmOf W) c v ∧ R c (B d) := by
  obtain ⟨fuel, hf⟩ := hd
  obtain ⟨c, h1, h2, h3⟩ := hRD fuel fuel (Nat.le_refl _) _ _ hf
  refine ⟨c, ?_, h3⟩
  obtain ⟨l, rfl⟩ := hR _ _ h3
  obtain ⟨cs, rfl, _⟩ := okWide_struct hu hok
  simp only [CV.cells, Value.cells] at h1 h2
  simp only [Rel]
  exact ⟨_, rfl, h1, h2⟩

theorem rel_of_trod_slice {R : CV → Nat → Prop} {t e : TypeId} {v : Value} {d : DataW H} {ps : List MemPlace} {b0 : Nat} {r : Reach} (hu : P.underlying t = some (.slice e)) (hRD : ∀ n, RD enc P W B n t R)
    (hd : DataW.Trod enc P W 0 (fun _ => true) true t v d ps) (hok : Value.okWide P W r b0 t v) (hR : ∀ c k, R c k → ∃ s l, c = .sl s l) : ∃ c, Rel (ImmOf W) c v ∧ R c (B d) := by
  obtain ⟨fuel, hf⟩ := hd
  obtain ⟨c, h1, h2, h3⟩ := hRD fuel fuel (Nat.le_refl _) _ _ hf
  refine ⟨c, ?_, h3⟩
  obtain ⟨s, l, rfl⟩ := hR _ _ h3
  obtain ⟨a, len, cap, rfl⟩ := okWide_slice hu hok
  simp only [CV.cells, Value.cells, RelL] at h1
  obtain ⟨u, us, h4, h5, rfl⟩ := h1
  simp at h4; subst h4
  exact h5

theorem imm_of (W : World) : ∀ b o v, ImmOf W b o = some v → W.cell? ⟨b, o, none⟩ = some v := fun _ _ _ h => h

theorem trodVars_mk0 {w : World} {sp : Nat → Bool} : DataW.TrodVars enc P w sp [] [] [] := by simp [DataW.TrodVars]

/-- What a row asks for, of a call that left what stood as it stood. -/
theorem post_grows {f : Func} {s : ChangeSpec} {apart fresh handsOn again : Bool} {W' : World} {G G' : Imm} {args : Array Value} {v : Value} {ds gs : List (DataW H)} {before : List MemPlace}
    (hW : DataW.Whole enc P f.params.toList s.vars apart W args.toList ds gs before) (hvars : s.vars = [])
    (hl : laidOutB P = true) (hm : mapsRowed P = true) (hz : ∀ t e, t < P.types.size → P.underlying t = some (.slice e) → 0 < P.cellsOf e) (hT : ∀ t ∈ f.params.toList, t < P.types.size)
    (hg : Grows W G W' G') {tb : TypeId} (hr : f.resultTypes = #[tb]) (hb : P.underlying tb = some .bool) {b : Bool} (hv : v = .bool b)
    (hfn : s.fn H (ds ++ gs) = { results := [.lit (.bool b)], args := ds }) : s.post enc P f apart fresh handsOn again W args v W' := by
  subst hv
  have hlt := hW.lt
  have hWW := hW
  obtain ⟨p, q, hA, hV, rfl, hfz, hnd⟩ := hW
  rw [hvars] at hV
  obtain ⟨rfl, rfl⟩ := trodVars_none hV
  simp only [List.append_nil] at *
  have hsame : ∀ x ∈ p, W.sameAt W' x := by
    intro x hx
    have := hg.block x.block (hlt x hx)
    cases x with
    | cell b' off => simp only [World.sameAt, World.cell?]; simp only [MemPlace.block] at this; rw [this]
    | map b' => exact this
  have carry : ∀ sp : Nat → Bool, (∀ x ∈ p, sp x.block = true) → DataW.TrodAll enc P W' 0 sp true f.params.toList args.toList ds p := by
    intro sp hsp
    have h1 := DataW.TrodAll.respare (kids_rows hl hm) hz hT hA hsp
    have : ∀ (ts : List TypeId) (vs : List Value) (ds : List (DataW H)) (ps : List MemPlace), DataW.TrodAll enc P W 0 sp true ts vs ds ps → (∀ x ∈ ps, W.sameAt W' x) → DataW.TrodAll enc P W' 0 sp true ts vs ds ps := by
      intro ts
      induction ts with
      | nil => intro vs ds ps h _; obtain ⟨rfl, rfl, rfl⟩ := trodAll_nil h; rfl
      | cons t ts ih =>
        intro vs ds ps h hs
        obtain ⟨v, vs', d, ds', p1, q1, rfl, rfl, rfl, ⟨n, h2⟩, h3⟩ := trodAll_cons h
        exact ⟨p1, q1, ⟨n, DataW.trod_carry n _ _ _ h2 fun x hx => hs x (List.mem_append_left _ hx)⟩, ih _ _ _ h3 fun x hx => hs x (List.mem_append_right _ hx), rfl⟩
    exact this _ _ _ _ h1 hsame
  have hres : ∀ (b0 : Nat) (sp : Nat → Bool) (hd : Bool), DataW.TrodAll enc P W' b0 sp hd f.resultTypes.toList ((Value.bool b).resultList f.resultTypes.size) [.lit (.bool b)] [] := by
    intro b0 sp hd
    rw [hr]
    exact trodAll_mk1 (shut_bool hb b)
  have hkept : W.keptBut W' (· ∈ p) := by
    refine ⟨hg.os, hg.output, fun i hi => ?_⟩
    rw [hg.block i hi]
    cases W.heap[i]? with
    | none => simp
    | some o => cases o <;> simp
  refine ⟨ds, [], p, [], p, [], by simpa using hWW, by simp only [List.append_nil, hfn]; exact hres _ _ _, by simp only [List.append_nil, hfn]; exact carry _ fun x hx => by simpa using hlt x hx,
    by simp only [List.append_nil, hfn, hvars]; rfl, World.keptBut_mono (fun x hx => ⟨hx, .inr (.inl hx)⟩) hkept, fun _ => ?_⟩
  refine ⟨ok_one hr rfl (okWide_bool_mk hb b), _, _, ([] ++ p) ++ [], ⟨[] ++ p, [], trodAll_append (carry _ (fun _ _ => rfl)) (hres _ _ _), (by rw [hvars]; exact trodVars_mk0), rfl, ?_, ?_⟩, ?_⟩
  · intro b' off hp
    have hp' : MemPlace.cell b' off ∈ p := by simpa using hp
    rw [(hg.kept b' off (hlt _ hp')).2]
    exact hfz b' off (by simpa using hp')
  · intro ha; simpa using hnd ha
  · intro x hx _; simpa using hx

end
end Go.Abs

namespace Go.Abs

section
variable {P : Program} {X : Ctx} {ops : Array Oper} {o : Oper} {rest : List Oper} {env : Env} {σ : St} {acc : List Fp} {Q : Env → St → List Fp → Prop}

/-- A looking operation whose value is known by a proof. -/
theorem AOps.look (hX : CtxOk P X) (kn : List Nat) (hg : aguard ops.toList kn env o = some true) {d : Nat} (hd : o.dst = some d) {v : AV} (hv : apure X σ.boxes (aeval X env) o.op = some v)
    (hr : readKeys (aeval X env) o.op = []) (k : AOps P X ops rest ((d, v) :: env) σ (⟨[], []⟩ :: acc) Q) : AOps P X ops (o :: rest) env σ acc Q := by
  have := AOps.step (Q := Q) (rest := rest) (acc := acc) (guard_in hg) (OpSem.pure (σ := σ) hX hv) (EffOk.id _)
  rw [hd, hr] at this
  exact this k

theorem AOps.quo (hX : CtxOk P X) (kn : List Nat) (hg : aguard ops.toList kn env o = some true) {t yt : TypeId} {x y : Operand} (ho : o.op = .binOp .quo t x y yt) {d : Nat} (hd : o.dst = some d) {i : TI} (hi : X.ti t = some i)
    {q : IntKind} {a b : Int} (hx : aeval X env x = some (.c (.int q a))) (hy : aeval X env y = some (.c (.int q b))) (hk : sameKind q q = true) (hb : b ≠ 0)
    (k : AOps P X ops rest ((d, .c (.int q (q.wrap (a.tdiv b)))) :: env) σ (⟨[], []⟩ :: acc) Q) : AOps P X ops (o :: rest) env σ acc Q := by
  refine AOps.look hX kn hg hd ?_ ?_ k
  · rw [ho]; simp only [apure, hi, hx, hy, abin, hk, ibin]
    have : (b == 0) = false := by simpa using hb
    rw [this]
  · rw [ho]; rfl

theorem AOps.rem (hX : CtxOk P X) (kn : List Nat) (hg : aguard ops.toList kn env o = some true) {t yt : TypeId} {x y : Operand} (ho : o.op = .binOp .rem t x y yt) {d : Nat} (hd : o.dst = some d) {i : TI} (hi : X.ti t = some i)
    {q : IntKind} {a b : Int} (hx : aeval X env x = some (.c (.int q a))) (hy : aeval X env y = some (.c (.int q b))) (hk : sameKind q q = true) (hb : b ≠ 0)
    (k : AOps P X ops rest ((d, .c (.int q (a.tmod b))) :: env) σ (⟨[], []⟩ :: acc) Q) : AOps P X ops (o :: rest) env σ acc Q := by
  refine AOps.look hX kn hg hd ?_ ?_ k
  · rw [ho]; simp only [apure, hi, hx, hy, abin, hk, ibin]
    have : (b == 0) = false := by simpa using hb
    rw [this]
  · rw [ho]; rfl

theorem AOps.shr (hX : CtxOk P X) (kn : List Nat) (hg : aguard ops.toList kn env o = some true) {t yt : TypeId} {x y : Operand} (ho : o.op = .binOp .shr t x y yt) {d : Nat} (hd : o.dst = some d) {i : TI} (hi : X.ti t = some i)
    {q q' : IntKind} {a b : Int} (hx : aeval X env x = some (.c (.int q a))) (hy : aeval X env y = some (.c (.int q' b))) {n : Nat} (hb : b = n)
    (k : AOps P X ops rest ((d, .c (.int q (a.fdiv (2 ^ (min n q.bits))))) :: env) σ (⟨[], []⟩ :: acc) Q) : AOps P X ops (o :: rest) env σ acc Q := by
  refine AOps.look hX kn hg hd ?_ ?_ k
  · subst hb; rw [ho]; simp only [apure, hi, hx, hy, abin, ishift]
  · rw [ho]; rfl

theorem AOps.shl (hX : CtxOk P X) (kn : List Nat) (hg : aguard ops.toList kn env o = some true) {t yt : TypeId} {x y : Operand} (ho : o.op = .binOp .shl t x y yt) {d : Nat} (hd : o.dst = some d) {i : TI} (hi : X.ti t = some i)
    {q q' : IntKind} {a b : Int} (hx : aeval X env x = some (.c (.int q a))) (hy : aeval X env y = some (.c (.int q' b))) {n : Nat} (hb : b = n)
    (k : AOps P X ops rest ((d, .c (.int q (q.wrap (a * 2 ^ (min n q.bits))))) :: env) σ (⟨[], []⟩ :: acc) Q) : AOps P X ops (o :: rest) env σ acc Q := by
  refine AOps.look hX kn hg hd ?_ ?_ k
  · subst hb; rw [ho]; simp only [apure, hi, hx, hy, abin, ishift]
  · rw [ho]; rfl

end
end Go.Abs

namespace Go.Abs

def spc : Char := Char.ofNat 32
def chs (l : List Nat) : List Char := l.map Char.ofNat

theorem words_cons (b : List Char) : ∀ (a : List Char), (a.all fun c => c != spc) = true → wordsSigns (a ++ spc :: b) = a :: wordsSigns b
  | [], _ => rfl
  | c :: a, h => by
    simp only [List.all_cons, Bool.and_eq_true, bne_iff_ne, ne_eq] at h
    have ih := words_cons b a h.2
    rw [List.cons_append, wordsSigns]
    · rw [ih]
    · exact h.1

theorem words_of {P : Program} {a b c : List Char} {d : List Char} (h : P.initOrder = String.ofList (a ++ spc :: (b ++ spc :: (c ++ spc :: d)))) (ha : (a.all fun c => c != spc) = true) (hb : (b.all fun c => c != spc) = true) (hc : (c.all fun c => c != spc) = true)
    (hab : ∀ T, behindMainWord (a :: b :: T) = T) : ∃ T, behindMainWord (wordsSigns P.initOrder.toList) = c :: T := by
  refine ⟨wordsSigns d, ?_⟩
  rw [h, String.toList_ofList, words_cons _ _ ha, words_cons _ _ hb, words_cons _ _ hc, hab]

theorem make_of {P : Program} {c : List Char} (h : ∃ T, behindMainWord (wordsSigns P.initOrder.toList) = c :: T) (h1 : (c == "gc".toList || c == "spec".toList) = false) (h2 : (c == "cut".toList) = true) : P.make = some .cut := by
  obtain ⟨T, h⟩ := h
  unfold Program.make
  rw [h]
  simp only [h1, h2, Bool.true_or, if_true]
  rfl

theorem strip_of {c : List Char} (T : List (List Char)) (hs : (liftWords.all fun o => c != o.toList) = true) : stripLifts liftWords (c :: T) = ([], c :: T) := by
  have key : ∀ (l : List String), (l.all fun o => c != o.toList) = true → stripLifts l (c :: T) = ([], c :: T) := by
    intro l
    induction l with
    | nil => intro _; rfl
    | cons o l ih =>
      intro h
      simp only [List.all_cons, Bool.and_eq_true, bne_iff_ne, ne_eq] at h
      simp only [stripLifts]
      rw [if_neg (by simpa using h.1)]
      exact ih h.2
  exact key _ hs

theorem lifts_of {P : Program} {c : List Char} (h : ∃ T, behindMainWord (wordsSigns P.initOrder.toList) = c :: T) (hs : (liftWords.all fun o => c != o.toList) = true) (h2 : (c == "cut".toList) = true) : P.headLifts = [] := by
  obtain ⟨T, h⟩ := h
  have h2' : c = "cut".toList := eq_of_beq h2
  unfold Program.headLifts
  rw [h, strip_of T hs]
  simp [h2']

theorem final_of {P : Program} {c : List Char} (h : ∃ T, behindMainWord (wordsSigns P.initOrder.toList) = c :: T) (hs : (liftWords.all fun o => c != o.toList) = true) (h2 : (c == "cut".toList) = true) (h3 : (c == "carried".toList) = false) : P.liftsFinal = false := by
  have h4 := lifts_of h hs h2
  obtain ⟨T, h⟩ := h
  unfold Program.liftsFinal
  rw [h4, h]
  have h5 : (some c == some "carried".toList) = false := by rw [← h3]; rfl
  simp only [List.head?_cons, h5, Bool.false_and, Bool.false_or]
  rfl

theorem enter_of {P : Program} {c : List Char} (h : ∃ T, behindMainWord (wordsSigns P.initOrder.toList) = c :: T) (hs : (liftWords.all fun o => c != o.toList) = true) (h2 : (c == "cut".toList) = true)
    (h5 : P.laysLater = false) (h6 : P.bearsReflect = false) (h7 : P.doorFits [] = true) : P.mayEnter = true := by
  obtain ⟨T, h⟩ := h
  have h2' : c = "cut".toList := eq_of_beq h2
  unfold Program.mayEnter
  rw [h]
  simp only [strip_of T hs, h5, h6, h7]
  simp [h2']

/-- The row's closed facts, one by one. -/
theorem joined_of {P : Program} {f : FuncId} {fn : Func} {s : ChangeSpec} {c : OpenClaim} (k1 : c.wf (OpenSpec.ofChange s) = true) (k2 : laidOutB P = true) (k3 : mapsRowed P = true)
    (k4 : fn.params.all (P.readableRec ·) = true) (k5 : namedTie P c.named s.vars = true)
    (k6 : (c.stops == []) = true) (k7 : (P.stops == []) = true) (k8 : (c.knobs == []) = true) (k9 : (P.stopKnobs == []) = true)
    (k10 : (c.inPlace == P.inPlace f) = true) (k11 : (c.unfollowed == P.unfollowed f) = true) (k12 : (c.recurses == P.recurses f) = true) (k13 : (c.named == P.varsNamed f) = true)
    (k14 : ((c.maps == (fn.params.toList ++ s.plain.varTypes P).any (P.mapsRec ·)) && (c.ifaces == (fn.params.toList ++ s.plain.varTypes P).any (P.ifacesRec ·)) && (c.mapsOut == P.mapsAmong fn.resultTypes.toList)) = true)
    (k15 : ((c.loops == (fn.params.toList ++ s.plain.varTypes P).any (P.loopsFrom ·)) && (c.wideKeys == (fn.params.toList ++ s.plain.varTypes P ++ fn.resultTypes.toList).any (P.wideKeysFrom ·))) = true)
    (k16 : (s.vars.all (P.varReadable ·) && fn.resultTypes.all (fun t => P.readableRec t && decide (t < P.types.size)) && (c.ifacesOut == fn.resultTypes.toList.any (P.ifacesRec ·)) && (c.loopsOut == fn.resultTypes.toList.any (P.loopsFrom ·))) = true)
    (k17 : (c.plainKeys == P.plainKeys) = true) (k18 : c.shortTexts.isNone = true) (k19 : P.stopsHeard = true) (k20 : P.mayEnter = true) (k21 : (c.lifted == P.liftsFinal) = true) (k22 : (P.make == some c.make) = true)
    (k23 : (c.kinds == (if c.domain.isEmpty then [] else fn.params.toList.map fun t => match P.underlying t with | some (.int k) => some k | _ => none)) = true) (k24 : (c.pinned == c.pinnedBy) = true)
    (k25 : (c.veiled == (fn.params.toList ++ s.plain.varTypes P ++ fn.resultTypes.toList).any (P.veiledRec ·)) = true) (k26 : c.veiledFits P fn.params.toList (fn.params.toList ++ s.plain.varTypes P ++ fn.resultTypes.toList) = true) :
    joinedFacts P f fn s c = true := by
  simp only [Bool.and_eq_true] at k14 k15 k16
  unfold joinedFacts
  simp only [Bool.and_eq_true]
  exact ⟨⟨⟨⟨⟨⟨⟨⟨⟨⟨⟨⟨⟨⟨⟨⟨⟨⟨⟨⟨⟨⟨⟨⟨⟨⟨⟨⟨⟨⟨⟨k1, k2⟩, k3⟩, k4⟩, k5⟩, k6⟩, k7⟩, k8⟩, k9⟩, k10⟩, k11⟩, k12⟩, k13⟩, k14.1.1⟩, k14.1.2⟩, k14.2⟩, k15.1⟩, k15.2⟩, k16.1.1.1⟩, k16.1.1.2⟩, k16.1.2⟩, k16.2⟩, k17⟩, k18⟩, k19⟩, k20⟩, k21⟩, k22⟩, k23⟩, k24⟩, k25⟩, k26⟩

end Go.Abs
