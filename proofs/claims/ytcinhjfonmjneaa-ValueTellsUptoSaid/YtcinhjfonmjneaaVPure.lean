/- Package value as plain functions: size, has, compare, same; and their laws. -/
import Derived.Test.YtcinhjfonmjneaaTPure
set_option linter.unusedVariables false
set_option linter.unusedSimpArgs false
namespace Go.Abs

def tyT : Ty → Int | .mk T _ => T
def tyArgs : Ty → List Ty | .mk _ l => l
def tyArg (t : Ty) (i : Nat) : Ty := (tyArgs t).getD i ty0
def vK : Vl → Int | .mk k _ _ _ _ _ _ => k
def vN : Vl → Int | .mk _ n _ _ _ _ _ => n
def vS : Vl → List UInt8 | .mk _ _ _ s _ _ _ => s
def vArgs : Vl → List Vl | .mk _ _ _ _ l _ _ => l
def vl0 : Vl := .mk 0 0 0 [] [] [] []

mutual
/-- Size. -/
def vSize : Vl → Nat
  | .mk _ _ _ s args _ _ => 1 + s.length / 8 + vSizes args
def vSizes : List Vl → Nat
  | [] => 0
  | x :: l => vSize x + vSizes l
end

mutual
def vSame : Vl → Vl → Bool
  | .mk k n a s l t c, .mk k' n' a' s' l' t' c' => k == k' && n == n' && a == a' && s == s' && vsSame l l' && tysSame t t' && ndsSame c c'
def vsSame : List Vl → List Vl → Bool
  | [], [] => true
  | t :: l, u :: r => vSame t u && vsSame l r
  | _, _ => false
end
def sgn (a b : Int) : Int := if a < b then -1 else if a > b then 1 else 0
def strCmp (a b : List UInt8) : Int := if Op.bytesLess a b then -1 else if Op.bytesLess b a then 1 else 0

mutual
/-- compare -/
def vCmp : Vl → Vl → Int
  | .mk k n a s args types code, .mk k' n' a' s' args' types' code' =>
    if k = 6 then strCmp s s'
    else if k = 9 then (if sgn args.length args'.length = 0 then vCmps args args' else sgn args.length args'.length)
    else if k = 11 then vCmps args args'
    else if k = 12 then (if sgn n n' = 0 then vCmps args args' else sgn n n')
    else sgn n n'
def vCmps : List Vl → List Vl → Int
  | x :: l, y :: r => if vCmp x y = 0 then vCmps l r else vCmp x y
  | _, _ => 0
end

def vPlain : Vl → Bool
  | .mk k n a s args types code =>
    if k = 15 then decide (types.length = 0 ∧ code.length = 0 ∧ s = [])
    else if k = 8 then decide (types.length = 1 ∧ code.length = 0 ∧ s = [])
    else if k = 14 then decide (types.length = 2 ∧ a = 0 ∧ n = 0 ∧ s = [] ∧ args.length = 0)
    else if k = 6 then decide (types.length = 0 ∧ code.length = 0 ∧ a = 0 ∧ n = 0 ∧ args.length = 0)
    else decide (types.length = 0 ∧ code.length = 0 ∧ a = 0 ∧ s = [])

/-- The first of what a pair has, of an item of a map. -/
def vKey (x : Vl) : Vl := (vArgs x).getD 0 vl0
def vUp : List Vl → Bool
  | [] => true
  | x :: l => match l with
    | [] => true
    | y :: _ => decide (vCmp (vKey x) (vKey y) < 0) && vUp l

mutual
/-- has -/
def vHas : Vl → Ty → Bool
  | .mk k n a s args types code, t =>
    if k ≠ tyT t ∨ vPlain (.mk k n a s args types code) = false ∨ 200 < s.length then false
    else if k = 1 ∨ k = 6 then decide (n = 0 ∧ args.length = 0)
    else if k = 2 then decide (0 ≤ n ∧ n ≤ 1 ∧ args.length = 0)
    else if k = 3 then decide (-maxI ≤ n ∧ n ≤ maxI ∧ args.length = 0)
    else if k = 4 ∨ k = 5 then decide (0 ≤ n ∧ n ≤ maxI ∧ args.length = 0)
    else if k = 7 then decide (0 ≤ n ∧ n < 12 ∧ args.length = 0)
    else if k = 9 then decide (n = 0 ∧ args.length ≤ 1) && vHasAll args (tyArg t 0)
    else if k = 10 then decide (n = 0 ∧ args.length ≤ 24) && vHasAll args (tyArg t 0)
    else if k = 11 then decide (n = 0 ∧ args.length = 2) && vHasRow args (tyArgs t)
    else if k = 12 then decide (0 ≤ n ∧ n ≤ 1 ∧ args.length = 1) && vHasAll args (tyArg t n.toNat)
    else if k = 13 then decide (n = 0 ∧ args.length ≤ 24) && vHasAll args (.mk 11 (tyArgs t)) && vUp args
    else if k = 14 then tySame (tyArg t 0) (types.getD 0 ty0) && tySame (tyArg t 1) (types.getD 1 ty0)
    else if k = 15 then decide (1 ≤ n ∧ n ≤ maxI ∧ 0 ≤ a ∧ a < 12 ∧ args.length = 1) && vHasAll args (tyArg t 0)
    else if k = 8 then decide (0 ≤ n ∧ n ≤ maxI ∧ 0 ≤ a ∧ a < 12 ∧ args.length = 1) && tGood (types.getD 0 ty0) && vHasAll args (types.getD 0 ty0)
    else false
def vHasAll : List Vl → Ty → Bool
  | [], _ => true
  | x :: l, t => vHas x t && vHasAll l t
def vHasRow : List Vl → List Ty → Bool
  | x :: l, t :: r => vHas x t && vHasRow l r
  | _, _ => true
end
def tHas (t : Ty) (v : Vl) : Bool := tGood t && vHas v t

theorem vHasAll_iff (t : Ty) : ∀ (l : List Vl), vHasAll l t = true ↔ ∀ x ∈ l, vHas x t = true
  | [] => by simp [vHasAll]
  | x :: l => by simp [vHasAll, vHasAll_iff t l]

def tCompare (t : Ty) (a b : Vl) : Int × Int := if tHas t a = true ∧ tHas t b = true ∧ tComp t = true then (vCmp a b, 0) else (0, 5)

-- what can be compared
theorem sgn_neg (a b : Int) : sgn a b = -sgn b a := by unfold sgn; split <;> split <;> (try split) <;> omega
theorem sgn_range (a b : Int) : -1 ≤ sgn a b ∧ sgn a b ≤ 1 := by unfold sgn; split <;> (try split) <;> omega
theorem sgn_zero {a b : Int} : sgn a b = 0 ↔ a = b := by unfold sgn; split <;> (try split) <;> omega

/-- Three answers go together: on from one to the next, even just where both are. -/
def Goes (x y z : Int) : Prop := (x ≤ 0 → y ≤ 0 → z ≤ 0 ∧ (z = 0 ↔ x = 0 ∧ y = 0)) ∧ (x ≥ 0 → y ≥ 0 → z ≥ 0 ∧ (z = 0 ↔ x = 0 ∧ y = 0))
theorem sgn_goes (a b c : Int) : Goes (sgn a b) (sgn b c) (sgn a c) := by
  unfold Goes sgn
  constructor <;> intro h1 h2 <;> split at h1 <;> split at h2 <;> split <;> (try split at h1) <;> (try split at h2) <;> (try split) <;> omega

theorem less_irrefl : ∀ (a : List UInt8), Op.bytesLess a a = false
  | [] => rfl
  | x :: a => by simp [Op.bytesLess, less_irrefl a]
theorem less_asymm : ∀ (a b : List UInt8), Op.bytesLess a b = true → Op.bytesLess b a = false
  | [], [], h => by simp [Op.bytesLess] at h
  | [], _ :: _, _ => rfl
  | _ :: _, [], h => by simp [Op.bytesLess] at h
  | x :: a, y :: b, h => by
    simp only [Op.bytesLess, Bool.or_eq_true, decide_eq_true_eq, Bool.and_eq_true, beq_iff_eq] at h
    simp only [Op.bytesLess, Bool.or_eq_false_iff, decide_eq_false_iff_not, Bool.and_eq_false_iff]
    rw [UInt8.lt_iff_toNat_lt] at *
    rcases h with h | ⟨rfl, h⟩
    · refine ⟨by omega, .inl ?_⟩
      simp only [beq_eq_false_iff_ne]; rintro rfl; omega
    · exact ⟨by omega, .inr (less_asymm a b h)⟩
theorem less_total : ∀ (a b : List UInt8), Op.bytesLess a b = false → Op.bytesLess b a = false → a = b
  | [], [], _, _ => rfl
  | [], _ :: _, h, _ => by simp [Op.bytesLess] at h
  | _ :: _, [], _, h => by simp [Op.bytesLess] at h
  | x :: a, y :: b, h, h' => by
    simp only [Op.bytesLess, Bool.or_eq_false_iff, decide_eq_false_iff_not, Bool.and_eq_false_iff, beq_eq_false_iff_ne, UInt8.lt_iff_toNat_lt] at h h'
    have e : x = y := UInt8.toNat_inj.1 (by omega)
    subst e
    rw [less_total a b (by simpa using h.2) (by simpa using h'.2)]
/-- Of one answer and what comes where it is even. -/
theorem goes_then {x y z x' y' z' : Int} (h : Goes x y z) (h' : x = 0 → y = 0 → Goes x' y' z') : Goes (if x = 0 then x' else x) (if y = 0 then y' else y) (if z = 0 then z' else z) := by
  unfold Goes at *
  by_cases ex : x = 0
  · by_cases ey : y = 0
    · have ez : z = 0 := by have := h.1 (by omega) (by omega); exact this.2.2 ⟨ex, ey⟩
      simp only [ex, ey, ez, if_true]
      exact h' ex ey
    · constructor
      · intro h1 h2
        rw [if_neg ey] at h2
        have := h.1 (by omega) h2
        have ez : z ≠ 0 := fun e => ey (this.2.1 e).2
        rw [if_neg ez, if_neg ey, if_pos ex]
        exact ⟨this.1, by constructor <;> intro h <;> omega⟩
      · intro h1 h2
        rw [if_neg ey] at h2
        have := h.2 (by omega) h2
        have ez : z ≠ 0 := fun e => ey (this.2.1 e).2
        rw [if_neg ez, if_neg ey, if_pos ex]
        exact ⟨this.1, by constructor <;> intro h <;> omega⟩
  · constructor
    · intro h1 h2
      rw [if_neg ex] at h1 ⊢
      have hy : y ≤ 0 := by by_cases ey : y = 0 <;> simp_all
      have := h.1 h1 hy
      have ez : z ≠ 0 := fun e => ex (this.2.1 e).1
      rw [if_neg ez]
      exact ⟨this.1, by constructor <;> intro h <;> omega⟩
    · intro h1 h2
      rw [if_neg ex] at h1 ⊢
      have hy : y ≥ 0 := by by_cases ey : y = 0 <;> simp_all
      have := h.2 h1 hy
      have ez : z ≠ 0 := fun e => ex (this.2.1 e).1
      rw [if_neg ez]
      exact ⟨this.1, by constructor <;> intro h <;> omega⟩

/-- Each of some values is one of its type, that can be compared. -/
def hasZ : List Vl → List Ty → Prop
  | [], _ => True
  | x :: l, t :: r => vHas x t = true ∧ tComp t = true ∧ tBad t = false ∧ hasZ l r
  | _ :: _, [] => False

theorem tBads_mem : ∀ {l : List Ty} {x : Ty}, tBads l = false → x ∈ l → tBad x = false
  | [], _, _, h => by simp at h
  | t :: l, x, hb, h => by
    simp only [tBads, Bool.or_eq_false_iff] at hb
    rcases List.mem_cons.1 h with rfl | h
    · exact hb.1
    · exact tBads_mem hb.2 h
theorem talls_mem {p : Int → Bool} : ∀ {l : List Ty} {x : Ty}, talls p l = true → x ∈ l → tall p x = true
  | [], _, _, h => by simp at h
  | t :: l, x, hb, h => by
    simp only [talls, Bool.and_eq_true] at hb
    rcases List.mem_cons.1 h with rfl | h
    · exact hb.1
    · exact talls_mem hb.2 h
theorem tyArg_mem {t : Ty} {i : Nat} (h : i < (tyArgs t).length) : tyArg t i ∈ tyArgs t := by
  unfold tyArg; rw [List.getD_eq_getElem?_getD, List.getElem?_eq_getElem h]; exact List.getElem_mem h
theorem tBad_args {t : Ty} (h : tBad t = false) : arity (tyT t) = (tyArgs t).length ∧ tBads (tyArgs t) = false := by
  cases t with | mk T l => simpa [tBad, tyT, tyArgs] using h
theorem tComp_args {t : Ty} (h : tComp t = true) : compP (tyT t) = true ∧ talls compP (tyArgs t) = true := by
  cases t with | mk T l => simpa [tComp, tall, tyT, tyArgs] using h
theorem comp_arg {t : Ty} (hc : tComp t = true) (hb : tBad t = false) {i : Nat} (h : (i : Int) < arity (tyT t)) : tComp (tyArg t i) = true ∧ tBad (tyArg t i) = false := by
  have h1 := tBad_args hb; have h2 := tComp_args hc
  have hm : tyArg t i ∈ tyArgs t := tyArg_mem (by omega)
  exact ⟨talls_mem h2.2 hm, tBads_mem h1.2 hm⟩

theorem hasZ_one {l : List Vl} {t : Ty} (hl : l.length ≤ 1) (h : vHasAll l t = true) (hc : tComp t = true) (hb : tBad t = false) : hasZ l [t] := by
  cases l with
  | nil => trivial
  | cons x l =>
    cases l with
    | nil => simp only [vHasAll, Bool.and_eq_true] at h; exact ⟨h.1, hc, hb, trivial⟩
    | cons y l => simp at hl
theorem hasZ_row : ∀ {l : List Vl} {ts : List Ty}, l.length = ts.length → vHasRow l ts = true → talls compP ts = true → tBads ts = false → hasZ l ts
  | [], _, _, _, _, _ => trivial
  | x :: l, [], h, _, _, _ => by simp at h
  | x :: l, t :: ts, h, hr, hc, hb => by
    simp only [vHasRow, Bool.and_eq_true] at hr
    simp only [talls, Bool.and_eq_true] at hc
    simp only [tBads, Bool.or_eq_false_iff] at hb
    exact ⟨hr.1, hc.1, hb.1, hasZ_row (by simpa using h) hr.2 hc.2 hb.2⟩

theorem compP_cases {T : Int} (h : compP T = true) : T = 1 ∨ T = 2 ∨ T = 3 ∨ T = 4 ∨ T = 5 ∨ T = 6 ∨ T = 7 ∨ T = 9 ∨ T = 11 ∨ T = 12 := by
  have h1 : T ≠ 8 ∧ T ≠ 10 ∧ T ≠ 13 ∧ T ≠ 14 ∧ T ≠ 15 ∧ arity T ≥ 0 := by
    simp only [compP, Bool.and_eq_true, bne_iff_ne, decide_eq_true_eq, ne_eq] at h
    exact ⟨h.1.1.1.1.1, h.1.1.1.1.2, h.1.1.1.2, h.1.1.2, h.1.2, h.2⟩
  have h2 := h1.2.2.2.2.2
  unfold arity at h2
  split at h2
  · omega
  · split at h2
    · omega
    · split at h2 <;> omega

theorem vHas_head {k n a : Int} {s : List UInt8} {args : List Vl} {types : List Ty} {code : List Nd} {t : Ty} (h : vHas (.mk k n a s args types code) t = true) : k = tyT t ∧ vPlain (.mk k n a s args types code) = true ∧ s.length ≤ 200 := by
  by_cases hc : k ≠ tyT t ∨ vPlain (.mk k n a s args types code) = false ∨ 200 < s.length
  · simp only [vHas, if_pos hc] at h; simp at h
  · simp only [not_or, ne_eq, Decidable.not_not, Bool.not_eq_false, Nat.not_lt] at hc; exact hc

theorem vHas_comp {k n a : Int} {s : List UInt8} {args : List Vl} {types : List Ty} {code : List Nd} {t : Ty} (h : vHas (.mk k n a s args types code) t = true) (hc : tComp t = true) (hb : tBad t = false) :
    k = tyT t ∧ a = 0 ∧ types = [] ∧ code = [] ∧ (k = 6 ∧ n = 0 ∧ args = [] ∨ (k ≠ 6 ∧ k ≠ 9 ∧ k ≠ 11 ∧ k ≠ 12) ∧ s = [] ∧ args = [] ∨ k = 9 ∧ n = 0 ∧ s = [] ∧ args.length ≤ 1 ∧ hasZ args [tyArg t 0] ∨
      k = 11 ∧ n = 0 ∧ s = [] ∧ args.length = 2 ∧ hasZ args (tyArgs t) ∨ k = 12 ∧ s = [] ∧ args.length = 1 ∧ hasZ args [tyArg t n.toNat]) := by
  obtain ⟨h1, h2, h3⟩ := vHas_head h
  have hk := compP_cases (tComp_args hc).1
  rw [← h1] at hk
  have hcond : ¬ (k ≠ tyT t ∨ vPlain (.mk k n a s args types code) = false ∨ 200 < s.length) := by
    rintro (h | h | h)
    · exact h h1
    · rw [h2] at h; simp at h
    · omega
  simp only [vHas, if_neg hcond] at h
  have har := (tBad_args hb).1
  rw [← h1] at har
  simp only [vPlain] at h2
  rcases hk with rfl | rfl | rfl | rfl | rfl | rfl | rfl | rfl | rfl | rfl
  all_goals simp at h h2
  · obtain ⟨p1, p2, p3, p4⟩ := h2
    exact ⟨h1, p3, p1, p2, .inr (.inl ⟨by omega, p4, h.2⟩)⟩
  · obtain ⟨p1, p2, p3, p4⟩ := h2
    exact ⟨h1, p3, p1, p2, .inr (.inl ⟨by omega, p4, h.2.2⟩)⟩
  · obtain ⟨p1, p2, p3, p4⟩ := h2
    exact ⟨h1, p3, p1, p2, .inr (.inl ⟨by omega, p4, h.2.2⟩)⟩
  · obtain ⟨p1, p2, p3, p4⟩ := h2
    exact ⟨h1, p3, p1, p2, .inr (.inl ⟨by omega, p4, h.2.2⟩)⟩
  · obtain ⟨p1, p2, p3, p4⟩ := h2
    exact ⟨h1, p3, p1, p2, .inr (.inl ⟨by omega, p4, h.2.2⟩)⟩
  · obtain ⟨p1, p2, p3, p4, p5⟩ := h2
    exact ⟨h1, p3, p1, p2, .inl ⟨rfl, h.1, h.2⟩⟩
  · obtain ⟨p1, p2, p3, p4⟩ := h2
    exact ⟨h1, p3, p1, p2, .inr (.inl ⟨by omega, p4, h.2.2⟩)⟩
  · obtain ⟨p1, p2, p3, p4⟩ := h2
    have hsub := comp_arg hc hb (i := 0) (by rw [← h1]; decide)
    exact ⟨h1, p3, p1, p2, .inr (.inr (.inl ⟨rfl, h.1.1, p4, h.1.2, hasZ_one h.1.2 h.2 hsub.1 hsub.2⟩))⟩
  · obtain ⟨p1, p2, p3, p4⟩ := h2
    have e : (tyArgs t).length = 2 := by have : arity 11 = 2 := by decide
                                         omega
    exact ⟨h1, p3, p1, p2, .inr (.inr (.inr (.inl ⟨rfl, h.1.1, p4, h.1.2, hasZ_row (by omega) h.2 (tComp_args hc).2 (tBad_args hb).2⟩)))⟩
  · obtain ⟨p1, p2, p3, p4⟩ := h2
    have hsub := comp_arg hc hb (i := n.toNat) (by rw [← h1]; have : arity 12 = 2 := by decide
                                                   omega)
    exact ⟨h1, p3, p1, p2, .inr (.inr (.inr (.inr ⟨rfl, p4, h.1.2.2, hasZ_one (by omega) h.2 hsub.1 hsub.2⟩)))⟩

structure CmpOk (x u y z : Int) (e : Prop) : Prop where
  neg : x = -u
  lo : -1 ≤ x
  hi : x ≤ 1
  zero : x = 0 ↔ e
  goes : Goes x y z

theorem CmpOk.sgn (a b c : Int) {e : Prop} (he : a = b ↔ e) : CmpOk (sgn a b) (Go.Abs.sgn b a) (Go.Abs.sgn b c) (Go.Abs.sgn a c) e := ⟨sgn_neg a b, (sgn_range a b).1, (sgn_range a b).2, sgn_zero.trans he, sgn_goes a b c⟩
theorem CmpOk.then {x u y z x' u' y' z' : Int} {e e' e'' : Prop} (h : CmpOk x u y z e) (h' : x = 0 → y = 0 → CmpOk x' u' y' z' e') (h2 : x = 0 → x' = -u' ∧ -1 ≤ x' ∧ x' ≤ 1 ∧ (x' = 0 ↔ e')) (he : e ∧ e' ↔ e'') :
    CmpOk (if x = 0 then x' else x) (if u = 0 then u' else u) (if y = 0 then y' else y) (if z = 0 then z' else z) e'' := by
  have hn := h.neg
  refine ⟨?_, ?_, ?_, ?_, goes_then h.goes fun h1 h3 => (h' h1 h3).goes⟩
  · by_cases hx : x = 0
    · rw [if_pos hx, if_pos (by omega)]; exact (h2 hx).1
    · rw [if_neg hx, if_neg (by omega)]; exact hn
  · by_cases hx : x = 0
    · rw [if_pos hx]; exact (h2 hx).2.1
    · rw [if_neg hx]; exact h.lo
  · by_cases hx : x = 0
    · rw [if_pos hx]; exact (h2 hx).2.2.1
    · rw [if_neg hx]; exact h.hi
  · by_cases hx : x = 0
    · rw [if_pos hx, (h2 hx).2.2.2, ← he]; simp [h.zero.1 hx]
    · rw [if_neg hx, ← he]
      constructor
      · intro hh; exact absurd hh hx
      · intro hh; exact absurd (h.zero.2 hh.1) hx

-- the reference
mutual
/-- Order -/
def rOrd : Vl → Vl → Int
  | .mk k n a s args types code, .mk k' n' a' s' args' types' code' =>
    if (if k = 9 then (args.length : Int) else n) < (if k = 9 then (args'.length : Int) else n') ∨ Op.bytesLess s s' = true then -1
    else if (if k = 9 then (args.length : Int) else n) > (if k = 9 then (args'.length : Int) else n') ∨ Op.bytesLess s' s = true then 1
    else rOrds args args'
def rOrds : List Vl → List Vl → Int
  | x :: l, y :: r => if rOrd x y = 0 then rOrds l r else rOrd x y
  | _, _ => 0
end
mutual
theorem rOrd_eq : ∀ (a b : Vl) (t : Ty), tComp t = true → tBad t = false → vHas a t = true → vHas b t = true → rOrd a b = vCmp a b
  | .mk k n a s args types code, .mk k' n' a' s' args' types' code', t, hc, hb, h1, h2 => by
    obtain ⟨e1, rfl, rfl, rfl, f1⟩ := vHas_comp h1 hc hb
    obtain ⟨e2, rfl, rfl, rfl, f2⟩ := vHas_comp h2 hc hb
    obtain rfl : k' = k := by rw [e1, e2]
    rcases f1 with ⟨g0, g1, g2⟩ | ⟨g0, g1, g2⟩ | ⟨g0, g1, g2, g3, g4⟩ | ⟨g0, g1, g2, g3, g4⟩ | ⟨g0, g2, g3, g4⟩
    · rcases f2 with ⟨m0, m1, m2⟩ | ⟨m0, _⟩ | ⟨m0, _⟩ | ⟨m0, _⟩ | ⟨m0, _⟩ <;> first | omega | skip
      subst g1 g2 m1 m2 g0
      simp [vCmp, rOrd, rOrds, strCmp]
    · rcases f2 with ⟨m0, _⟩ | ⟨m0, m1, m2⟩ | ⟨m0, _⟩ | ⟨m0, _⟩ | ⟨m0, _⟩ <;> first | omega | skip
      subst g1 g2 m1 m2
      simp [vCmp, rOrd, rOrds, if_neg g0.1, if_neg g0.2.1, if_neg g0.2.2.1, if_neg g0.2.2.2, Op.bytesLess, sgn]
    · rcases f2 with ⟨m0, _⟩ | ⟨m0, _⟩ | ⟨m0, m1, m2, m3, m4⟩ | ⟨m0, _⟩ | ⟨m0, _⟩ <;> first | omega | skip
      subst g1 g2 m1 m2 g0
      have ih := rOrds_eq args args' _ g4 m4
      simp only [vCmp, rOrd, Op.bytesLess, show ¬ ((9 : Int) = 6) from by omega, if_false, if_true, sgn, ih]
      split <;> (try split) <;> simp_all <;> omega
    · rcases f2 with ⟨m0, _⟩ | ⟨m0, _⟩ | ⟨m0, _⟩ | ⟨m0, m1, m2, m3, m4⟩ | ⟨m0, _⟩ <;> first | omega | skip
      subst g1 g2 m1 m2 g0
      have ih := rOrds_eq args args' _ g4 m4
      simp [vCmp, rOrd, Op.bytesLess, ih]
    · rcases f2 with ⟨m0, _⟩ | ⟨m0, _⟩ | ⟨m0, _⟩ | ⟨m0, _⟩ | ⟨m0, m2, m3, m4⟩ <;> first | omega | skip
      subst g2 m2 g0
      by_cases hn : n = n'
      · subst hn
        have ih := rOrds_eq args args' _ g4 m4
        simp [vCmp, rOrd, Op.bytesLess, ih, sgn]
      · simp only [vCmp, rOrd, Op.bytesLess, show ¬ ((12 : Int) = 6) from by omega, show ¬ ((12 : Int) = 9) from by omega, show ¬ ((12 : Int) = 11) from by omega, if_false, if_true, sgn]
        by_cases hlt : n < n'
        · simp [hlt]
        · have : n > n' := by omega
          simp [hlt, this]
theorem rOrds_eq : ∀ (a b : List Vl) (ts : List Ty), hasZ a ts → hasZ b ts → rOrds a b = vCmps a b
  | [], b, _, _, _ => by cases b <;> rfl
  | _ :: _, [], _, _, _ => rfl
  | x :: a, y :: b, [], h, _ => h.elim
  | x :: a, y :: b, t :: ts, ha, hb => by
    simp only [rOrds, vCmps]
    rw [rOrd_eq x y t ha.2.1 ha.2.2.1 ha.1 hb.1, rOrds_eq a b ts ha.2.2.2 hb.2.2.2]
end
end Go.Abs
