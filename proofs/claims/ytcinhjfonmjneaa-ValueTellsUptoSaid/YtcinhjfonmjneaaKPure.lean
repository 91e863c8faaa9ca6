/- Package kind and its reference, as plain functions, and that they answer alike. -/
import Derived.Test.YtcinhjfonmjneaaData
set_option linter.unusedVariables false
set_option linter.unusedSimpArgs false
namespace Go.Abs

def arity (t : Int) : Int :=
  if t = 1 ∨ t = 2 ∨ t = 3 ∨ t = 4 ∨ t = 5 ∨ t = 6 ∨ t = 7 ∨ t = 8 then 0 else if t = 9 ∨ t = 10 ∨ t = 15 then 1 else if t = 11 ∨ t = 12 ∨ t = 13 ∨ t = 14 then 2 else -1

mutual
/-- All numbers in a type have a property. -/
def tall (p : Int → Bool) : Ty → Bool
  | .mk T args => p T && talls p args
def talls (p : Int → Bool) : List Ty → Bool
  | [] => true
  | t :: l => tall p t && talls p l
end

def compP (t : Int) : Bool := t != 8 && t != 10 && t != 13 && t != 14 && t != 15 && decide (arity t ≥ 0)
def packP (t : Int) : Bool := t != 8 && t != 14 && t != 15
def tComp (t : Ty) : Bool := tall compP t
def tPack (t : Ty) : Bool := tall packP t

mutual
/-- None of some numbers is in a type; what a lambda takes and gives is not looked into. -/
def tNone (p : Int → Bool) : Ty → Bool
  | .mk T args => if T = 14 then true else p T && tNones p args
def tNones (p : Int → Bool) : List Ty → Bool
  | [] => true
  | t :: l => tNone p t && tNones p l
end
def copyP (t : Int) : Bool := t != 15 && t != 8
def storeP (t : Int) : Bool := t != 8
def tCopy (t : Ty) : Bool := tNone copyP t
def tStore (t : Ty) : Bool := tNone storeP t

def headComp : List Ty → Bool
  | [] => false
  | t :: _ => tComp t

mutual
/-- good: whether, and how many were counted. -/
def kGood : Ty → Int → Int → Bool × Int
  | .mk T args, d, n => if d > 24 ∨ n + 1 > 300 ∨ arity T ≠ args.length then (false, n + 1) else
    match kGoods args (d + 1) (n + 1) with
    | (true, m) => (if T = 13 ∨ T = 15 then headComp args else true, m)
    | (false, m) => (false, m)
def kGoods : List Ty → Int → Int → Bool × Int
  | [], _, n => (true, n)
  | t :: l, d, n => match kGood t d n with
    | (true, m) => kGoods l d m
    | (false, m) => (false, m)
end
def tGood (t : Ty) : Bool := (kGood t 1 0).1

mutual
theorem kGood_le : ∀ (t : Ty) (d n : Int), n ≤ 300 → n < (kGood t d n).2 ∧ (kGood t d n).2 ≤ 301 ∧ ((kGood t d n).1 = true → (kGood t d n).2 ≤ 300)
  | .mk T args, d, n, hn => by
    simp only [kGood]
    split
    · refine ⟨by simp; omega, by simp; omega, by simp⟩
    · rename_i h
      have ih := kGoods_le args (d + 1) (n + 1) (by omega)
      split
      · rename_i m hm
        rw [hm] at ih
        have := ih.2.2 rfl
        refine ⟨by simp only; have := ih.1; simp only at this; omega, by simp only at this ⊢; omega, fun _ => this⟩
      · rename_i m hm
        rw [hm] at ih
        refine ⟨by simp only; have := ih.1; simp only at this; omega, ih.2.1, by simp⟩
theorem kGoods_le : ∀ (l : List Ty) (d n : Int), n ≤ 300 → n ≤ (kGoods l d n).2 ∧ (kGoods l d n).2 ≤ 301 ∧ ((kGoods l d n).1 = true → (kGoods l d n).2 ≤ 300)
  | [], d, n, hn => by simp only [kGoods]; exact ⟨by omega, by omega, fun _ => hn⟩
  | t :: l, d, n, hn => by
    have ih := kGood_le t d n hn
    simp only [kGoods]
    split
    · rename_i m hm
      rw [hm] at ih
      have h1 := ih.2.2 rfl
      have h2 := ih.1
      simp only at h1 h2
      have ih2 := kGoods_le l d m h1
      exact ⟨by omega, ih2.2⟩
    · rename_i m hm
      rw [hm] at ih
      have h1 := ih.1; have h2 := ih.2.1
      simp only at h1 h2
      exact ⟨by simp only; omega, h2, by simp⟩
end

mutual
/-- parse: the type, if it is one, and what is left. -/
def kParse : Nd → Int → Int → Option Ty × Int
  | .mk kind n p s args, d, left => if left - 1 < 0 ∨ d > 24 ∨ kind ≠ 2 ∨ n ≠ 0 ∨ s ≠ [] ∨ arity p ≠ args.length then (none, left - 1) else
    match kParses args (d + 1) (left - 1) with
    | (some l, m) => (some (.mk p l), m)
    | (none, m) => (none, m)
def kParses : List Nd → Int → Int → Option (List Ty) × Int
  | [], _, left => (some [], left)
  | x :: l, d, left => match kParse x d left with
    | (some t, m) => match kParses l d m with
      | (some r, m') => (some (t :: r), m')
      | (none, m') => (none, m')
    | (none, m) => (none, m)
end

/-- Parse: the type and the error. -/
def tParse (n : Nd) : Ty × Int := match (kParse n 1 300).1 with
  | some t => if tGood t then (t, 0) else (.mk 0 [], 1)
  | none => (.mk 0 [], 1)

mutual
/-- A type's tree. -/
def tyNd : Ty → Nd
  | .mk T args => .mk 2 0 T [] (tyNds args)
def tyNds : List Ty → List Nd
  | [] => []
  | t :: l => tyNd t :: tyNds l
end
def nd0 : Nd := .mk 0 0 0 [] []
def ty0 : Ty := .mk 0 []
def tNode (t : Ty) : Nd × Int := if tGood t then (tyNd t, 0) else (nd0, 1)

mutual
def tySame : Ty → Ty → Bool
  | .mk T l, .mk U r => T == U && tysSame l r
def tysSame : List Ty → List Ty → Bool
  | [], [] => true
  | t :: l, u :: r => tySame t u && tysSame l r
  | _, _ => false
end
mutual
def ndSame : Nd → Nd → Bool
  | .mk a b c s l, .mk a' b' c' s' l' => a == a' && b == b' && c == c' && s == s' && ndsSame l l'
def ndsSame : List Nd → List Nd → Bool
  | [], [] => true
  | t :: l, u :: r => ndSame t u && ndsSame l r
  | _, _ => false
end
mutual
theorem tySame_iff : ∀ (t u : Ty), tySame t u = true ↔ t = u
  | .mk T l, .mk U r => by simp [tySame, tysSame_iff l r]
theorem tysSame_iff : ∀ (t u : List Ty), tysSame t u = true ↔ t = u
  | [], [] => by simp [tysSame]
  | [], _ :: _ => by simp [tysSame]
  | _ :: _, [] => by simp [tysSame]
  | t :: l, u :: r => by simp [tysSame, tySame_iff t u, tysSame_iff l r]
end
mutual
theorem ndSame_iff : ∀ (t u : Nd), ndSame t u = true ↔ t = u
  | .mk a b c s l, .mk a' b' c' s' l' => by simp [ndSame, ndsSame_iff l l', and_assoc]
theorem ndsSame_iff : ∀ (t u : List Nd), ndsSame t u = true ↔ t = u
  | [], [] => by simp [ndsSame]
  | [], _ :: _ => by simp [ndsSame]
  | _ :: _, [] => by simp [ndsSame]
  | t :: l, u :: r => by simp [ndsSame, ndSame_iff t u, ndsSame_iff l r]
end
theorem tysSame_len : ∀ (t u : List Ty), t.length ≠ u.length → tysSame t u = false
  | [], [], h => by simp at h
  | [], _ :: _, _ => by simp [tysSame]
  | _ :: _, [], _ => by simp [tysSame]
  | t :: l, u :: r, h => by simp [tysSame, tysSame_len l r (by simpa using h)]
theorem ndsSame_len : ∀ (t u : List Nd), t.length ≠ u.length → ndsSame t u = false
  | [], [], h => by simp at h
  | [], _ :: _, _ => by simp [ndsSame]
  | _ :: _, [], _ => by simp [ndsSame]
  | t :: l, u :: r, h => by simp [ndsSame, ndsSame_len l r (by simpa using h)]

-- the reference
mutual
def rReal : Ty → Bool
  | .mk T args => decide (arity T ≥ 0) && rReals args
def rReals : List Ty → Bool
  | [] => true
  | t :: l => rReal t && rReals l
end
mutual
/-- without -/
def rWout (lam : Bool) (q : List Int) : Ty → Bool
  | .mk T args => if q.contains T then false else if T = 14 ∧ lam = false then true else rWouts lam q args
def rWouts (lam : Bool) (q : List Int) : List Ty → Bool
  | [] => true
  | t :: l => rWout lam q t && rWouts lam q l
end
def rComp (t : Ty) : Bool := rReal t && rWout true [8, 10, 13, 14, 15] t

mutual
theorem rComp_eq : ∀ (t : Ty), (rReal t && rWout true [8, 10, 13, 14, 15] t) = tComp t
  | .mk T args => by
    have ih := rComps_eq args
    simp only [tComp, tall, rReal, rWout, ← ih, compP]
    generalize decide (arity T ≥ 0) = A
    cases A <;> by_cases h2 : T = 8 <;> by_cases h3 : T = 10 <;> by_cases h4 : T = 13 <;> by_cases h5 : T = 14 <;> by_cases h6 : T = 15 <;> simp_all
theorem rComps_eq : ∀ (l : List Ty), (rReals l && rWouts true [8, 10, 13, 14, 15] l) = talls compP l
  | [] => rfl
  | t :: l => by
    have h1 := rComp_eq t
    have h2 := rComps_eq l
    simp only [tComp] at h1
    simp only [talls, ← h1, ← h2, rReals, rWouts]
    cases rReal t <;> cases rReals l <;> cases rWout true [8, 10, 13, 14, 15] t <;> simp
end
mutual
theorem rPack_eq : ∀ (t : Ty), rWout true [8, 14, 15] t = tPack t
  | .mk T args => by
    have ih := rPacks_eq args
    simp only [tPack, tall, rWout, ← ih, packP]
    by_cases h2 : T = 8 <;> by_cases h5 : T = 14 <;> by_cases h6 : T = 15 <;> simp_all
theorem rPacks_eq : ∀ (l : List Ty), rWouts true [8, 14, 15] l = talls packP l
  | [] => rfl
  | t :: l => by
    have h1 := rPack_eq t
    have h2 := rPacks_eq l
    simp only [tPack] at h1
    simp only [talls, ← h1, ← h2, rWouts]
end
mutual
/-- goodType -/
def rGood : Ty → Int → Int → Bool × Int
  | .mk T args, d, left => if d = 0 ∨ left = 0 ∨ arity T ≠ args.length then (false, 0) else
    match rGoods args (d - 1) (left - 1) with
    | (true, m) => (if T = 13 ∨ T = 15 then headComp args else true, m)
    | (false, _) => (false, 0)
def rGoods : List Ty → Int → Int → Bool × Int
  | [], _, left => (true, left)
  | t :: l, d, left => match rGood t d left with
    | (true, m) => rGoods l d m
    | (false, _) => (false, 0)
end

mutual
theorem rGood_eq : ∀ (t : Ty) (d n : Int), d ≤ 25 → n ≤ 300 → (rGood t (25 - d) (300 - n)).1 = (kGood t d n).1 ∧ ((kGood t d n).1 = true → (rGood t (25 - d) (300 - n)).2 = 300 - (kGood t d n).2)
  | .mk T args, d, n, hd, hn => by
    simp only [kGood, rGood]
    by_cases h : d > 24 ∨ n + 1 > 300 ∨ arity T ≠ args.length
    · rw [if_pos h, if_pos (by omega)]; simp
    · rw [if_neg h, if_neg (by omega)]
      have ih := rGoods_eq args (d + 1) (n + 1) (by omega) (by omega)
      rw [show 25 - (d + 1) = 25 - d - 1 from by omega, show 300 - (n + 1) = 300 - n - 1 from by omega] at ih
      rcases hk : kGoods args (d + 1) (n + 1) with ⟨b, m⟩
      rcases hr : rGoods args (25 - d - 1) (300 - n - 1) with ⟨b', m'⟩
      rw [hk, hr] at ih
      obtain ⟨e1, e2⟩ := ih
      simp only at e1 e2
      subst e1
      cases b'
      · simp
      · simp only; exact ⟨trivial, fun _ => e2 rfl⟩
theorem rGoods_eq : ∀ (l : List Ty) (d n : Int), d ≤ 25 → n ≤ 300 → (rGoods l (25 - d) (300 - n)).1 = (kGoods l d n).1 ∧ ((kGoods l d n).1 = true → (rGoods l (25 - d) (300 - n)).2 = 300 - (kGoods l d n).2)
  | [], d, n, hd, hn => by simp [kGoods, rGoods]
  | t :: l, d, n, hd, hn => by
    have ih := rGood_eq t d n hd hn
    have hle := kGood_le t d n hn
    simp only [kGoods, rGoods]
    rcases hk : kGood t d n with ⟨b, m⟩
    rcases hr : rGood t (25 - d) (300 - n) with ⟨b', m'⟩
    rw [hk, hr] at ih
    rw [hk] at hle
    obtain ⟨e1, e2⟩ := ih
    simp only at e1 e2 hle
    subst e1
    cases b'
    · simp
    · simp only
      rw [e2 rfl]
      exact rGoods_eq l d m hd (hle.2.2 rfl)
end
theorem rGood_top (t : Ty) : (rGood t 24 300).1 = tGood t := by
  have := (rGood_eq t 1 0 (by omega) (by omega)).1
  simpa [tGood] using this

mutual
/-- typeOf -/
def rType : Nd → Int → Int → Ty × Int
  | .mk kind n p s args, d, left => if kind ≠ 2 ∨ n ≠ 0 ∨ s ≠ [] ∨ d = 0 ∨ left - 1 < 0 then (ty0, left - 1) else
    match rTypes args (d - 1) (left - 1) with
    | (l, m) => (.mk p l, m)
def rTypes : List Nd → Int → Int → List Ty × Int
  | [], _, left => ([], left)
  | x :: l, d, left => match rType x d left with
    | (t, m) => match rTypes l d m with
      | (r, m') => (t :: r, m')
end

mutual
/-- Somewhere in it the number of parts is wrong. -/
def tBad : Ty → Bool
  | .mk T args => decide (arity T ≠ args.length) || tBads args
def tBads : List Ty → Bool
  | [] => false
  | t :: l => tBad t || tBads l
end

mutual
theorem bad_good : ∀ (t : Ty) (d n : Int), tBad t = true → (rGood t d n).1 = false
  | .mk T args, d, n, h => by
    simp only [rGood]
    split
    · rfl
    · rename_i hc
      simp only [tBad, Bool.or_eq_true, decide_eq_true_eq] at h
      have h2 : tBads args = true := by
        rcases h with h | h
        · omega
        · exact h
      have ih := bads_good args (d - 1) (n - 1) h2
      rcases hr : rGoods args (d - 1) (n - 1) with ⟨b, m⟩
      rw [hr] at ih
      simp only at ih; subst ih
      rfl
theorem bads_good : ∀ (l : List Ty) (d n : Int), tBads l = true → (rGoods l d n).1 = false
  | [], d, n, h => by simp [tBads] at h
  | t :: l, d, n, h => by
    simp only [tBads, Bool.or_eq_true] at h
    simp only [rGoods]
    rcases hr : rGood t d n with ⟨b, m⟩
    cases b
    · rfl
    · have h2 : tBads l = true := by
        rcases h with h | h
        · have := bad_good t d n h; rw [hr] at this; simp at this
        · exact h
      exact bads_good l d m h2
end

def rParse (n : Nd) : Ty × Int := if (rGood (rType n 24 300).1 24 300).1 then ((rType n 24 300).1, 0) else (.mk 0 [], 1)

end Go.Abs
