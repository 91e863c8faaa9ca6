/- The data of the chain, as plain inductive types, and how they lie in memory. Package kind and its reference, as plain functions, and that they answer alike. Package tree and its reference, as plain functions, and their laws. Package value as plain functions: size, has, compare, same; and their laws. What has of touchstoneref says, as plain functions. Package value's node and parse as plain functions; what tells a value is read as it, and the other way round. Package check as plain functions, and their laws. Types of which all parts are there, and what fits finds. What kind.arity answers. What slices.IndexFunc over types answers. What slices.ContainsFunc over types and kind.all answer. What kind.Comparable, Packed, Copied and Stored answer, and those of touchstoneref. What made, realType, without, Comparable, Copied, Packed and Stored of package touchstoneref answer. What kind.good and kind.Good, and goodType and GoodType of touchstoneref answer. What kind.Good and kind.parse answer. What kind.Parse, node and Node answer, and the sentences that ask whether kind answers at all. What slices.EqualFunc answers, and Same of kind, SameType and SameNode of touchstoneref, sameNode of touchstonekeep and of value. -/
import Derived.Test.YtegjgkkcgalonaaDoorLibD
import Derived.IntWalk
import Derived.Test.YtegjgkkcgalonaaDoorCtx
namespace Go.Abs

theorem w64 {n : Int} (h1 : -9223372036854775808 ≤ n) (h2 : n ≤ 9223372036854775807) : IntKind.i64.wrap n = n := IntWalk.i64_in n ⟨h1, h2⟩

inductive Ty where
  | mk (T : Int) (args : List Ty)
  deriving Inhabited

inductive Nd where
  | mk (kind n p : Int) (s : List UInt8) (args : List Nd)
  deriving Inhabited

inductive Vl where
  | mk (k n a : Int) (s : List UInt8) (args : List Vl) (types : List Ty) (code : List Nd)
  deriving Inhabited

abbrev cint (n : Int) : CV := .int .i64 n

mutual
def encTy : Ty → CV
  | .mk T args => .agg [.int .i64 T, .sl 2 (encTys args)]
def encTys : List Ty → List CV
  | [] => []
  | t :: l => encTy t :: encTys l
end

mutual
def encNd : Nd → CV
  | .mk kind n p s args => .agg [.int .i64 kind, .int .i64 n, .int .i64 p, .str s, .sl 5 (encNds args)]
def encNds : List Nd → List CV
  | [] => []
  | t :: l => encNd t :: encNds l
end

mutual
def encVl : Vl → CV
  | .mk k n a s args types code => .agg [.int .i64 k, .int .i64 n, .int .i64 a, .str s, .sl 7 (encVls args), .sl 2 (encTys types), .sl 5 (encNds code)]
def encVls : List Vl → List CV
  | [] => []
  | t :: l => encVl t :: encVls l
end

theorem encTys_get : ∀ (l : List Ty) (i : Nat), (encTys l)[i]? = l[i]?.map encTy
  | [], i => by simp [encTys]
  | t :: l, 0 => by simp [encTys]
  | t :: l, i + 1 => by simp [encTys, encTys_get l i]
theorem encTys_length : ∀ (l : List Ty), (encTys l).length = l.length
  | [] => rfl
  | t :: l => by simp [encTys, encTys_length l]
theorem encNds_get : ∀ (l : List Nd) (i : Nat), (encNds l)[i]? = l[i]?.map encNd
  | [], i => by simp [encNds]
  | t :: l, 0 => by simp [encNds]
  | t :: l, i + 1 => by simp [encNds, encNds_get l i]
theorem encNds_length : ∀ (l : List Nd), (encNds l).length = l.length
  | [] => rfl
  | t :: l => by simp [encNds, encNds_length l]
theorem encVls_get : ∀ (l : List Vl) (i : Nat), (encVls l)[i]? = l[i]?.map encVl
  | [], i => by simp [encVls]
  | t :: l, 0 => by simp [encVls]
  | t :: l, i + 1 => by simp [encVls, encVls_get l i]
theorem encVls_length : ∀ (l : List Vl), (encVls l).length = l.length
  | [] => rfl
  | t :: l => by simp [encVls, encVls_length l]

abbrev I64 (n : Int) : Prop := -9223372036854775808 ≤ n ∧ n ≤ 9223372036854775807

mutual
/-- All numbers in it are numbers of 64 bits. -/
def tyWf : Ty → Prop
  | .mk T args => I64 T ∧ tysWf args
def tysWf : List Ty → Prop
  | [] => True
  | t :: l => tyWf t ∧ tysWf l
end
mutual
def ndWf : Nd → Prop
  | .mk kind n p _ args => I64 kind ∧ I64 n ∧ I64 p ∧ ndsWf args
def ndsWf : List Nd → Prop
  | [] => True
  | t :: l => ndWf t ∧ ndsWf l
end
mutual
def vlWf : Vl → Prop
  | .mk k n a _ args types code => I64 k ∧ I64 n ∧ I64 a ∧ vlsWf args ∧ tysWf types ∧ ndsWf code
def vlsWf : List Vl → Prop
  | [] => True
  | t :: l => vlWf t ∧ vlsWf l
end
mutual
/-- How large it is, all told. -/
def tySize : Ty → Nat
  | .mk _ args => tysSize args + 1
def tysSize : List Ty → Nat
  | [] => 0
  | t :: l => tySize t + tysSize l
end
mutual
def ndSize : Nd → Nat
  | .mk _ _ _ s args => s.length + ndsSize args + 1
def ndsSize : List Nd → Nat
  | [] => 0
  | t :: l => ndSize t + ndsSize l
end
mutual
def vlSize : Vl → Nat
  | .mk _ _ _ s args types code => s.length + vlsSize args + tysSize types + ndsSize code + 1
def vlsSize : List Vl → Nat
  | [] => 0
  | t :: l => vlSize t + vlsSize l
end

theorem tySize_pos (t : Ty) : 1 ≤ tySize t := by cases t; simp [tySize]
theorem ndSize_pos (t : Nd) : 1 ≤ ndSize t := by cases t; simp [ndSize]
theorem vlSize_pos (t : Vl) : 1 ≤ vlSize t := by cases t; simp [vlSize]
theorem tysSize_len : ∀ (l : List Ty), l.length ≤ tysSize l
  | [] => Nat.le_refl _
  | t :: l => by have := tySize_pos t; have := tysSize_len l; simp only [List.length_cons, tysSize]; omega
theorem ndsSize_len : ∀ (l : List Nd), l.length ≤ ndsSize l
  | [] => Nat.le_refl _
  | t :: l => by have := ndSize_pos t; have := ndsSize_len l; simp only [List.length_cons, ndsSize]; omega
theorem vlsSize_len : ∀ (l : List Vl), l.length ≤ vlsSize l
  | [] => Nat.le_refl _
  | t :: l => by have := vlSize_pos t; have := vlsSize_len l; simp only [List.length_cons, vlsSize]; omega
theorem tysSize_mem : ∀ {l : List Ty} {x : Ty}, x ∈ l → tySize x ≤ tysSize l
  | [], x, h => by simp at h
  | t :: l, x, h => by
    simp only [tysSize]
    rcases List.mem_cons.1 h with rfl | h
    · omega
    · have := tysSize_mem h; omega
theorem ndsSize_mem : ∀ {l : List Nd} {x : Nd}, x ∈ l → ndSize x ≤ ndsSize l
  | [], x, h => by simp at h
  | t :: l, x, h => by
    simp only [ndsSize]
    rcases List.mem_cons.1 h with rfl | h
    · omega
    · have := ndsSize_mem h; omega
theorem vlsSize_mem : ∀ {l : List Vl} {x : Vl}, x ∈ l → vlSize x ≤ vlsSize l
  | [], x, h => by simp at h
  | t :: l, x, h => by
    simp only [vlsSize]
    rcases List.mem_cons.1 h with rfl | h
    · omega
    · have := vlsSize_mem h; omega
end Go.Abs

set_option linter.unusedVariables false
set_option linter.unusedSimpArgs false
namespace Go.Abs

def arity (t : Int) : Int :=
  if t = 1 ∨ t = 2 ∨ t = 3 ∨ t = 4 ∨ t = 5 ∨ t = 6 ∨ t = 7 ∨ t = 8 then 0 else if t = 9 ∨ t = 10 ∨ t = 15 then 1 else if t = 11 ∨ t = 12 ∨ t = 13 ∨ t = 14 then 2 else -1

mutual
/-- All numbers in a type have a property. -/
def tall (p : Int → Bool) : Ty → Bool
  | .mk T args => p T && talls p args
def talls (p : Int → Bool) : List Ty → Bool
  | [] => true
  | t :: l => tall p t && talls p l
end

def compP (t : Int) : Bool := t != 8 && t != 10 && t != 13 && t != 14 && t != 15 && decide (arity t ≥ 0)
def packP (t : Int) : Bool := t != 8 && t != 14 && t != 15
def tComp (t : Ty) : Bool := tall compP t
def tPack (t : Ty) : Bool := tall packP t

mutual
/-- None of some numbers is in a type; what a lambda takes and gives is not looked into. -/
def tNone (p : Int → Bool) : Ty → Bool
  | .mk T args => if T = 14 then true else p T && tNones p args
def tNones (p : Int → Bool) : List Ty → Bool
  | [] => true
  | t :: l => tNone p t && tNones p l
end
def copyP (t : Int) : Bool := t != 15 && t != 8
def storeP (t : Int) : Bool := t != 8
def tCopy (t : Ty) : Bool := tNone copyP t
def tStore (t : Ty) : Bool := tNone storeP t

def headComp : List Ty → Bool
  | [] => false
  | t :: _ => tComp t

mutual
/-- good: whether, and how many were counted. -/
def kGood : Ty → Int → Int → Bool × Int
  | .mk T args, d, n => if d > 24 ∨ n + 1 > 300 ∨ arity T ≠ args.length then (false, n + 1) else
    match kGoods args (d + 1) (n + 1) with
    | (true, m) => (if T = 13 ∨ T = 15 then headComp args else true, m)
    | (false, m) => (false, m)
def kGoods : List Ty → Int → Int → Bool × Int
  | [], _, n => (true, n)
  | t :: l, d, n => match kGood t d n with
    | (true, m) => kGoods l d m
    | (false, m) => (false, m)
end
def tGood (t : Ty) : Bool := (kGood t 1 0).1

mutual
theorem kGood_le : ∀ (t : Ty) (d n : Int), n ≤ 300 → n < (kGood t d n).2 ∧ (kGood t d n).2 ≤ 301 ∧ ((kGood t d n).1 = true → (kGood t d n).2 ≤ 300)
  | .mk T args, d, n, hn => by
    simp only [kGood]
    split
    · refine ⟨by simp; omega, by simp; omega, by simp⟩
    · rename_i h
      have ih := kGoods_le args (d + 1) (n + 1) (by omega)
      split
      · rename_i m hm
        rw [hm] at ih
        have := ih.2.2 rfl
        refine ⟨by simp only; have := ih.1; simp only at this; omega, by simp only at this ⊢; omega, fun _ => this⟩
      · rename_i m hm
        rw [hm] at ih
        refine ⟨by simp only; have := ih.1; simp only at this; omega, ih.2.1, by simp⟩
theorem kGoods_le : ∀ (l : List Ty) (d n : Int), n ≤ 300 → n ≤ (kGoods l d n).2 ∧ (kGoods l d n).2 ≤ 301 ∧ ((kGoods l d n).1 = true → (kGoods l d n).2 ≤ 300)
  | [], d, n, hn => by simp only [kGoods]; exact ⟨by omega, by omega, fun _ => hn⟩
  | t :: l, d, n, hn => by
    have ih := kGood_le t d n hn
    simp only [kGoods]
    split
    · rename_i m hm
      rw [hm] at ih
      have h1 := ih.2.2 rfl
      have h2 := ih.1
      simp only at h1 h2
      have ih2 := kGoods_le l d m h1
      exact ⟨by omega, ih2.2⟩
    · rename_i m hm
      rw [hm] at ih
      have h1 := ih.1; have h2 := ih.2.1
      simp only at h1 h2
      exact ⟨by simp only; omega, h2, by simp⟩
end

mutual
/-- parse: the type, if it is one, and what is left. -/
def kParse : Nd → Int → Int → Option Ty × Int
  | .mk kind n p s args, d, left => if left - 1 < 0 ∨ d > 24 ∨ kind ≠ 2 ∨ n ≠ 0 ∨ s ≠ [] ∨ arity p ≠ args.length then (none, left - 1) else
    match kParses args (d + 1) (left - 1) with
    | (some l, m) => (some (.mk p l), m)
    | (none, m) => (none, m)
def kParses : List Nd → Int → Int → Option (List Ty) × Int
  | [], _, left => (some [], left)
  | x :: l, d, left => match kParse x d left with
    | (some t, m) => match kParses l d m with
      | (some r, m') => (some (t :: r), m')
      | (none, m') => (none, m')
    | (none, m) => (none, m)
end

mutual
theorem kParse_le : ∀ (t : Nd) (d n : Int), 0 ≤ n → (kParse t d n).2 < n ∧ -1 ≤ (kParse t d n).2 ∧ ((kParse t d n).1 ≠ none → 0 ≤ (kParse t d n).2)
  | .mk kind nn p s args, d, n, hn => by
    simp only [kParse]
    split
    · refine ⟨by simp; omega, by simp; omega, by simp⟩
    · rename_i h
      have ih := kParses_le args (d + 1) (n - 1) (by omega)
      split
      · rename_i l m hm
        rw [hm] at ih
        have := ih.2.2 (by simp)
        exact ⟨by simp only; have := ih.1; simp only at this; omega, by simp only at this ⊢; omega, fun _ => this⟩
      · rename_i m hm
        rw [hm] at ih
        exact ⟨by simp only; have := ih.1; simp only at this; omega, ih.2.1, by simp⟩
theorem kParses_le : ∀ (l : List Nd) (d n : Int), 0 ≤ n → (kParses l d n).2 ≤ n ∧ -1 ≤ (kParses l d n).2 ∧ ((kParses l d n).1 ≠ none → 0 ≤ (kParses l d n).2)
  | [], d, n, hn => by simp only [kParses]; exact ⟨by omega, by omega, fun _ => hn⟩
  | t :: l, d, n, hn => by
    have ih := kParse_le t d n hn
    simp only [kParses]
    split
    · rename_i y m hm
      rw [hm] at ih
      have h1 := ih.2.2 (by simp)
      have h2 := ih.1
      simp only at h1 h2
      have ih2 := kParses_le l d m h1
      split
      · rename_i r m' hm'
        rw [hm'] at ih2
        have := ih2.1; simp only at this
        exact ⟨by simp only; omega, ih2.2.1, fun _ => ih2.2.2 (by simp)⟩
      · rename_i m' hm'
        rw [hm'] at ih2
        have := ih2.1; simp only at this
        exact ⟨by simp only; omega, ih2.2.1, by simp⟩
    · rename_i m hm
      rw [hm] at ih
      have h1 := ih.1; have h2 := ih.2.1
      simp only at h1 h2
      exact ⟨by simp only; omega, h2, by simp⟩
end

/-- Parse: the type and the error. -/
def tParse (n : Nd) : Ty × Int := match (kParse n 1 300).1 with
  | some t => if tGood t then (t, 0) else (.mk 0 [], 1)
  | none => (.mk 0 [], 1)

mutual
/-- A type's tree. -/
def tyNd : Ty → Nd
  | .mk T args => .mk 2 0 T [] (tyNds args)
def tyNds : List Ty → List Nd
  | [] => []
  | t :: l => tyNd t :: tyNds l
end
def nd0 : Nd := .mk 0 0 0 [] []
def ty0 : Ty := .mk 0 []
def tNode (t : Ty) : Nd × Int := if tGood t then (tyNd t, 0) else (nd0, 1)

mutual
def tySame : Ty → Ty → Bool
  | .mk T l, .mk U r => T == U && tysSame l r
def tysSame : List Ty → List Ty → Bool
  | [], [] => true
  | t :: l, u :: r => tySame t u && tysSame l r
  | _, _ => false
end
mutual
def ndSame : Nd → Nd → Bool
  | .mk a b c s l, .mk a' b' c' s' l' => a == a' && b == b' && c == c' && s == s' && ndsSame l l'
def ndsSame : List Nd → List Nd → Bool
  | [], [] => true
  | t :: l, u :: r => ndSame t u && ndsSame l r
  | _, _ => false
end
mutual
theorem tySame_iff : ∀ (t u : Ty), tySame t u = true ↔ t = u
  | .mk T l, .mk U r => by simp [tySame, tysSame_iff l r]
theorem tysSame_iff : ∀ (t u : List Ty), tysSame t u = true ↔ t = u
  | [], [] => by simp [tysSame]
  | [], _ :: _ => by simp [tysSame]
  | _ :: _, [] => by simp [tysSame]
  | t :: l, u :: r => by simp [tysSame, tySame_iff t u, tysSame_iff l r]
end
theorem tysSame_len : ∀ (t u : List Ty), t.length ≠ u.length → tysSame t u = false
  | [], [], h => by simp at h
  | [], _ :: _, _ => by simp [tysSame]
  | _ :: _, [], _ => by simp [tysSame]
  | t :: l, u :: r, h => by simp [tysSame, tysSame_len l r (by simpa using h)]
-- the reference
mutual
def rReal : Ty → Bool
  | .mk T args => decide (arity T ≥ 0) && rReals args
def rReals : List Ty → Bool
  | [] => true
  | t :: l => rReal t && rReals l
end
mutual
/-- without -/
def rWout (lam : Bool) (q : List Int) : Ty → Bool
  | .mk T args => if q.contains T then false else if T = 14 ∧ lam = false then true else rWouts lam q args
def rWouts (lam : Bool) (q : List Int) : List Ty → Bool
  | [] => true
  | t :: l => rWout lam q t && rWouts lam q l
end
def rComp (t : Ty) : Bool := rReal t && rWout true [8, 10, 13, 14, 15] t

mutual
/-- goodType -/
def rGood : Ty → Int → Int → Bool × Int
  | .mk T args, d, left => if d = 0 ∨ left = 0 ∨ arity T ≠ args.length then (false, 0) else
    match rGoods args (d - 1) (left - 1) with
    | (true, m) => (if T = 13 ∨ T = 15 then headComp args else true, m)
    | (false, _) => (false, 0)
def rGoods : List Ty → Int → Int → Bool × Int
  | [], _, left => (true, left)
  | t :: l, d, left => match rGood t d left with
    | (true, m) => rGoods l d m
    | (false, _) => (false, 0)
end

mutual
theorem rGood_eq : ∀ (t : Ty) (d n : Int), d ≤ 25 → n ≤ 300 → (rGood t (25 - d) (300 - n)).1 = (kGood t d n).1 ∧ ((kGood t d n).1 = true → (rGood t (25 - d) (300 - n)).2 = 300 - (kGood t d n).2)
  | .mk T args, d, n, hd, hn => by
    simp only [kGood, rGood]
    by_cases h : d > 24 ∨ n + 1 > 300 ∨ arity T ≠ args.length
    · rw [if_pos h, if_pos (by omega)]; simp
    · rw [if_neg h, if_neg (by omega)]
      have ih := rGoods_eq args (d + 1) (n + 1) (by omega) (by omega)
      rw [show 25 - (d + 1) = 25 - d - 1 from by omega, show 300 - (n + 1) = 300 - n - 1 from by omega] at ih
      rcases hk : kGoods args (d + 1) (n + 1) with ⟨b, m⟩
      rcases hr : rGoods args (25 - d - 1) (300 - n - 1) with ⟨b', m'⟩
      rw [hk, hr] at ih
      obtain ⟨e1, e2⟩ := ih
      simp only at e1 e2
      subst e1
      cases b'
      · simp
      · simp only; exact ⟨trivial, fun _ => e2 rfl⟩
theorem rGoods_eq : ∀ (l : List Ty) (d n : Int), d ≤ 25 → n ≤ 300 → (rGoods l (25 - d) (300 - n)).1 = (kGoods l d n).1 ∧ ((kGoods l d n).1 = true → (rGoods l (25 - d) (300 - n)).2 = 300 - (kGoods l d n).2)
  | [], d, n, hd, hn => by simp [kGoods, rGoods]
  | t :: l, d, n, hd, hn => by
    have ih := rGood_eq t d n hd hn
    have hle := kGood_le t d n hn
    simp only [kGoods, rGoods]
    rcases hk : kGood t d n with ⟨b, m⟩
    rcases hr : rGood t (25 - d) (300 - n) with ⟨b', m'⟩
    rw [hk, hr] at ih
    rw [hk] at hle
    obtain ⟨e1, e2⟩ := ih
    simp only at e1 e2 hle
    subst e1
    cases b'
    · simp
    · simp only
      rw [e2 rfl]
      exact rGoods_eq l d m hd (hle.2.2 rfl)
end
theorem rGood_top (t : Ty) : (rGood t 24 300).1 = tGood t := by
  have := (rGood_eq t 1 0 (by omega) (by omega)).1
  simpa [tGood] using this

mutual
/-- typeOf -/
def rType : Nd → Int → Int → Ty × Int
  | .mk kind n p s args, d, left => if kind ≠ 2 ∨ n ≠ 0 ∨ s ≠ [] ∨ d = 0 ∨ left - 1 < 0 then (ty0, left - 1) else
    match rTypes args (d - 1) (left - 1) with
    | (l, m) => (.mk p l, m)
def rTypes : List Nd → Int → Int → List Ty × Int
  | [], _, left => ([], left)
  | x :: l, d, left => match rType x d left with
    | (t, m) => match rTypes l d m with
      | (r, m') => (t :: r, m')
end

mutual
/-- Somewhere in it the number of parts is wrong. -/
def tBad : Ty → Bool
  | .mk T args => decide (arity T ≠ args.length) || tBads args
def tBads : List Ty → Bool
  | [] => false
  | t :: l => tBad t || tBads l
end

mutual
theorem bad_good : ∀ (t : Ty) (d n : Int), tBad t = true → (rGood t d n).1 = false
  | .mk T args, d, n, h => by
    simp only [rGood]
    split
    · rfl
    · rename_i hc
      simp only [tBad, Bool.or_eq_true, decide_eq_true_eq] at h
      have h2 : tBads args = true := by
        rcases h with h | h
        · omega
        · exact h
      have ih := bads_good args (d - 1) (n - 1) h2
      rcases hr : rGoods args (d - 1) (n - 1) with ⟨b, m⟩
      rw [hr] at ih
      simp only at ih; subst ih
      rfl
theorem bads_good : ∀ (l : List Ty) (d n : Int), tBads l = true → (rGoods l d n).1 = false
  | [], d, n, h => by simp [tBads] at h
  | t :: l, d, n, h => by
    simp only [tBads, Bool.or_eq_true] at h
    simp only [rGoods]
    rcases hr : rGood t d n with ⟨b, m⟩
    cases b
    · rfl
    · have h2 : tBads l = true := by
        rcases h with h | h
        · have := bad_good t d n h; rw [hr] at this; simp at this
        · exact h
      exact bads_good l d m h2
end

def rParse (n : Nd) : Ty × Int := if (rGood (rType n 24 300).1 24 300).1 then ((rType n 24 300).1, 0) else (.mk 0 [], 1)

end Go.Abs

set_option linter.unusedVariables false
set_option linter.unusedSimpArgs false
namespace Go.Abs

abbrev maxI : Int := 1152921504606846976

def primP (p : Int) : Bool := decide ((1 ≤ p ∧ p ≤ 15) ∨ (20 ≤ p ∧ p ≤ 28) ∨ (40 ≤ p ∧ p ≤ 95))

/-- What is wrong with a node by itself, at a depth. -/
def wrong1 (kind n p : Int) (s : List UInt8) (k : Nat) (d : Int) : Int :=
  if d > 24 then 4
  else if kind < 0 ∨ kind > 3 ∨ kind = 2 ∧ primP p = false then 3
  else if kind ≠ 0 ∧ n ≠ 0 ∨ kind ≠ 2 ∧ p ≠ 0 ∨ kind ≠ 1 ∧ s ≠ [] ∨ kind < 2 ∧ 0 < k then 1
  else if n < -maxI ∨ n > maxI then 2
  else if 200 < s.length then 4 else 0

mutual
def wrong : Nd → Int → Int
  | .mk kind n p s args, d => if wrong1 kind n p s args.length d = 0 then wrongs args (d + 1) else wrong1 kind n p s args.length d
def wrongs : List Nd → Int → Int
  | [], _ => 0
  | x :: l, d => if wrong x d = 0 then wrongs l d else wrong x d
end
mutual
def many : Nd → Nat
  | .mk _ _ _ _ args => manys args + 1
def manys : List Nd → Nat
  | [] => 0
  | x :: l => many x + manys l
end
def tGoodN (n : Nd) : Int := if wrong n 1 = 0 then (if 300 < many n then 4 else 0) else wrong n 1

/-- The bytes of a number: the first rest, then what is above it. -/
def putB (c m : Nat) : List UInt8 :=
  if m = 0 then [byteOf (c : Nat)] else byteOf ((c + 128 : Nat) : Int) :: putB (m % 128) (m / 128)
termination_by m
decreasing_by omega

def numB (n : Int) : List UInt8 := putB ((if n < 0 then 64 else 0) + n.natAbs % 64) (n.natAbs / 64)

mutual
/-- A tree's bytes. -/
def bytesN : Nd → List UInt8
  | .mk kind n p s args =>
    if kind = 0 then byteOf kind :: numB n
    else if kind = 1 then byteOf kind :: (numB (s.length : Int) ++ s)
    else if kind = 2 then byteOf kind :: byteOf p :: (numB (args.length : Int) ++ bytesNs args)
    else byteOf kind :: (numB (args.length : Int) ++ bytesNs args)
def bytesNs : List Nd → List UInt8
  | [] => []
  | x :: l => bytesN x ++ bytesNs l
end
def tEncode (n : Nd) : List UInt8 × Int := if tGoodN n = 0 then (bytesN n, 0) else ([], tGoodN n)

-- numbers read
def takeB : List UInt8 → Nat → Nat → Option (Nat × List UInt8)
  | [], _, _ => none
  | b :: s, n, sh => if b.toNat = 0 ∨ sh > 55 then none
    else if b.toNat ≥ 128 then takeB s (n + b.toNat % 128 * 2 ^ sh) (sh + 7) else some (n + b.toNat % 128 * 2 ^ sh, s)
def takeFirst (b : UInt8) (s : List UInt8) : Option (Nat × List UInt8) := if b.toNat ≥ 128 then takeB s (b.toNat % 64) 6 else some (b.toNat % 64, s)
def takeNum : List UInt8 → Option (Int × List UInt8)
  | [] => none
  | b :: s => match takeFirst b s with
    | none => none
    | some (n, r) => if (b.toNat / 64 % 2 = 1 ∧ n = 0) ∨ n > 1152921504606846976 then none else some (if b.toNat / 64 % 2 = 1 then -(n : Int) else n, r)

-- trees read
inductive Rd (α : Type) where
  | ok (a : α) (s : List UInt8) (left : Nat)
  | no (e : Int)

def rdRow (f : List UInt8 → Nat → Rd Nd) : Nat → List UInt8 → Nat → Rd (List Nd)
  | 0, s, left => .ok [] s left
  | k + 1, s, left => match f s left with
    | .no e => .no e
    | .ok x s' left' => match rdRow f k s' left' with
      | .no e => .no e
      | .ok l s2 left2 => .ok (x :: l) s2 left2

/-- The arguments of a node. -/
def rdArgs (f : List UInt8 → Nat → Rd Nd) (kind p : Int) (s : List UInt8) (left : Nat) : Rd Nd :=
  match takeNum s with
  | none => .no 1
  | some (k, s') => if k < 0 then .no 1 else match rdRow f k.toNat s' left with
    | .no e => .no e
    | .ok l s2 left2 => .ok (.mk kind 0 p [] l) s2 left2

/-- A node behind its kind. -/
def rdBody (f : List UInt8 → Nat → Rd Nd) (c : Nat) (s : List UInt8) (left : Nat) : Rd Nd :=
  if c = 0 then (match takeNum s with
    | none => .no 1
    | some (n, s') => .ok (.mk 0 n 0 [] []) s' left)
  else if c = 1 then (match takeNum s with
    | none => .no 1
    | some (n, s') => if n < 0 ∨ n > 200 ∨ n > s'.length then .no 1 else .ok (.mk 1 0 0 (s'.take n.toNat) []) (s'.drop n.toNat) left)
  else if c = 2 then (match s with
    | [] => .no 1
    | p :: s' => if primP p.toNat = true then rdArgs f 2 p.toNat s' left else .no 1)
  else if c = 3 then rdArgs f 3 0 s left
  else .no 1

def rdNode : Nat → List UInt8 → Nat → Rd Nd
  | 0, _, _ => .no 4
  | g + 1, s, left => if left = 0 then .no 4 else match s with
    | [] => .no 1
    | c :: s' => rdBody (rdNode g) c.toNat s' (left - 1)

def tDecode (s : List UInt8) : Nd × Int := match rdNode 24 s 300 with
  | .no e => (nd0, e)
  | .ok n r _ => if r = [] then (n, 0) else (nd0, 1)

theorem wrong_eq {kind n p : Int} {s : List UInt8} {args : List Nd} {d : Int} (h : wrong (.mk kind n p s args) d = 0) : wrong1 kind n p s args.length d = 0 ∧ wrongs args (d + 1) = 0 := by
  simp only [wrong] at h
  by_cases hh : wrong1 kind n p s args.length d = 0
  · rw [if_pos hh] at h; exact ⟨hh, h⟩
  · rw [if_neg hh] at h; exact absurd h hh

theorem tGoodN_zero {n : Nd} : tGoodN n = 0 ↔ wrong n 1 = 0 ∧ many n ≤ 300 := by
  unfold tGoodN
  split
  · rename_i h; split <;> simp [h] <;> omega
  · rename_i h; simp [h]

end Go.Abs

set_option linter.unusedVariables false
set_option linter.unusedSimpArgs false
namespace Go.Abs

def tyT : Ty → Int | .mk T _ => T
def tyArgs : Ty → List Ty | .mk _ l => l
def tyArg (t : Ty) (i : Nat) : Ty := (tyArgs t).getD i ty0
def vK : Vl → Int | .mk k _ _ _ _ _ _ => k
def vN : Vl → Int | .mk _ n _ _ _ _ _ => n
def vS : Vl → List UInt8 | .mk _ _ _ s _ _ _ => s
def vArgs : Vl → List Vl | .mk _ _ _ _ l _ _ => l
def vl0 : Vl := .mk 0 0 0 [] [] [] []

mutual
/-- Size. -/
def vSize : Vl → Nat
  | .mk _ _ _ s args _ _ => 1 + s.length / 8 + vSizes args
def vSizes : List Vl → Nat
  | [] => 0
  | x :: l => vSize x + vSizes l
end

mutual
def vSame : Vl → Vl → Bool
  | .mk k n a s l t c, .mk k' n' a' s' l' t' c' => k == k' && n == n' && a == a' && s == s' && vsSame l l' && tysSame t t' && ndsSame c c'
def vsSame : List Vl → List Vl → Bool
  | [], [] => true
  | t :: l, u :: r => vSame t u && vsSame l r
  | _, _ => false
end
def sgn (a b : Int) : Int := if a < b then -1 else if a > b then 1 else 0
def strCmp (a b : List UInt8) : Int := if Op.bytesLess a b then -1 else if Op.bytesLess b a then 1 else 0

mutual
/-- compare -/
def vCmp : Vl → Vl → Int
  | .mk k n a s args types code, .mk k' n' a' s' args' types' code' =>
    if k = 6 then strCmp s s'
    else if k = 9 then (if sgn args.length args'.length = 0 then vCmps args args' else sgn args.length args'.length)
    else if k = 11 then vCmps args args'
    else if k = 12 then (if sgn n n' = 0 then vCmps args args' else sgn n n')
    else sgn n n'
def vCmps : List Vl → List Vl → Int
  | x :: l, y :: r => if vCmp x y = 0 then vCmps l r else vCmp x y
  | _, _ => 0
end

def vPlain : Vl → Bool
  | .mk k n a s args types code =>
    if k = 15 then decide (types.length = 0 ∧ code.length = 0 ∧ s = [])
    else if k = 8 then decide (types.length = 1 ∧ code.length = 0 ∧ s = [])
    else if k = 14 then decide (types.length = 2 ∧ a = 0 ∧ n = 0 ∧ s = [] ∧ args.length = 0)
    else if k = 6 then decide (types.length = 0 ∧ code.length = 0 ∧ a = 0 ∧ n = 0 ∧ args.length = 0)
    else decide (types.length = 0 ∧ code.length = 0 ∧ a = 0 ∧ s = [])

/-- The first of what a pair has, of an item of a map. -/
def vKey (x : Vl) : Vl := (vArgs x).getD 0 vl0
def vUp : List Vl → Bool
  | [] => true
  | x :: l => match l with
    | [] => true
    | y :: _ => decide (vCmp (vKey x) (vKey y) < 0) && vUp l

mutual
/-- has -/
def vHas : Vl → Ty → Bool
  | .mk k n a s args types code, t =>
    if k ≠ tyT t ∨ vPlain (.mk k n a s args types code) = false ∨ 200 < s.length then false
    else if k = 1 ∨ k = 6 then decide (n = 0 ∧ args.length = 0)
    else if k = 2 then decide (0 ≤ n ∧ n ≤ 1 ∧ args.length = 0)
    else if k = 3 then decide (-maxI ≤ n ∧ n ≤ maxI ∧ args.length = 0)
    else if k = 4 ∨ k = 5 then decide (0 ≤ n ∧ n ≤ maxI ∧ args.length = 0)
    else if k = 7 then decide (0 ≤ n ∧ n < 12 ∧ args.length = 0)
    else if k = 9 then decide (n = 0 ∧ args.length ≤ 1) && vHasAll args (tyArg t 0)
    else if k = 10 then decide (n = 0 ∧ args.length ≤ 24) && vHasAll args (tyArg t 0)
    else if k = 11 then decide (n = 0 ∧ args.length = 2) && vHasRow args (tyArgs t)
    else if k = 12 then decide (0 ≤ n ∧ n ≤ 1 ∧ args.length = 1) && vHasAll args (tyArg t n.toNat)
    else if k = 13 then decide (n = 0 ∧ args.length ≤ 24) && vHasAll args (.mk 11 (tyArgs t)) && vUp args
    else if k = 14 then tySame (tyArg t 0) (types.getD 0 ty0) && tySame (tyArg t 1) (types.getD 1 ty0)
    else if k = 15 then decide (1 ≤ n ∧ n ≤ maxI ∧ 0 ≤ a ∧ a < 12 ∧ args.length = 1) && vHasAll args (tyArg t 0)
    else if k = 8 then decide (0 ≤ n ∧ n ≤ maxI ∧ 0 ≤ a ∧ a < 12 ∧ args.length = 1) && tGood (types.getD 0 ty0) && vHasAll args (types.getD 0 ty0)
    else false
def vHasAll : List Vl → Ty → Bool
  | [], _ => true
  | x :: l, t => vHas x t && vHasAll l t
def vHasRow : List Vl → List Ty → Bool
  | x :: l, t :: r => vHas x t && vHasRow l r
  | _, _ => true
end
def tHas (t : Ty) (v : Vl) : Bool := tGood t && vHas v t

theorem vHasAll_iff (t : Ty) : ∀ (l : List Vl), vHasAll l t = true ↔ ∀ x ∈ l, vHas x t = true
  | [] => by simp [vHasAll]
  | x :: l => by simp [vHasAll, vHasAll_iff t l]

def tCompare (t : Ty) (a b : Vl) : Int × Int := if tHas t a = true ∧ tHas t b = true ∧ tComp t = true then (vCmp a b, 0) else (0, 5)

-- what can be compared
theorem sgn_neg (a b : Int) : sgn a b = -sgn b a := by unfold sgn; split <;> split <;> (try split) <;> omega
theorem sgn_range (a b : Int) : -1 ≤ sgn a b ∧ sgn a b ≤ 1 := by unfold sgn; split <;> (try split) <;> omega
theorem sgn_zero {a b : Int} : sgn a b = 0 ↔ a = b := by unfold sgn; split <;> (try split) <;> omega

/-- Three answers go together: on from one to the next, even just where both are. -/
def Goes (x y z : Int) : Prop := (x ≤ 0 → y ≤ 0 → z ≤ 0 ∧ (z = 0 ↔ x = 0 ∧ y = 0)) ∧ (x ≥ 0 → y ≥ 0 → z ≥ 0 ∧ (z = 0 ↔ x = 0 ∧ y = 0))
theorem sgn_goes (a b c : Int) : Goes (sgn a b) (sgn b c) (sgn a c) := by
  unfold Goes sgn
  constructor <;> intro h1 h2 <;> split at h1 <;> split at h2 <;> split <;> (try split at h1) <;> (try split at h2) <;> (try split) <;> omega

/-- Of one answer and what comes where it is even. -/
theorem goes_then {x y z x' y' z' : Int} (h : Goes x y z) (h' : x = 0 → y = 0 → Goes x' y' z') : Goes (if x = 0 then x' else x) (if y = 0 then y' else y) (if z = 0 then z' else z) := by
  unfold Goes at *
  by_cases ex : x = 0
  · by_cases ey : y = 0
    · have ez : z = 0 := by have := h.1 (by omega) (by omega); exact this.2.2 ⟨ex, ey⟩
      simp only [ex, ey, ez, if_true]
      exact h' ex ey
    · constructor
      · intro h1 h2
        rw [if_neg ey] at h2
        have := h.1 (by omega) h2
        have ez : z ≠ 0 := fun e => ey (this.2.1 e).2
        rw [if_neg ez, if_neg ey, if_pos ex]
        exact ⟨this.1, by constructor <;> intro h <;> omega⟩
      · intro h1 h2
        rw [if_neg ey] at h2
        have := h.2 (by omega) h2
        have ez : z ≠ 0 := fun e => ey (this.2.1 e).2
        rw [if_neg ez, if_neg ey, if_pos ex]
        exact ⟨this.1, by constructor <;> intro h <;> omega⟩
  · constructor
    · intro h1 h2
      rw [if_neg ex] at h1 ⊢
      have hy : y ≤ 0 := by by_cases ey : y = 0 <;> simp_all
      have := h.1 h1 hy
      have ez : z ≠ 0 := fun e => ex (this.2.1 e).1
      rw [if_neg ez]
      exact ⟨this.1, by constructor <;> intro h <;> omega⟩
    · intro h1 h2
      rw [if_neg ex] at h1 ⊢
      have hy : y ≥ 0 := by by_cases ey : y = 0 <;> simp_all
      have := h.2 h1 hy
      have ez : z ≠ 0 := fun e => ex (this.2.1 e).1
      rw [if_neg ez]
      exact ⟨this.1, by constructor <;> intro h <;> omega⟩

/-- Each of some values is one of its type, that can be compared. -/
def hasZ : List Vl → List Ty → Prop
  | [], _ => True
  | x :: l, t :: r => vHas x t = true ∧ tComp t = true ∧ tBad t = false ∧ hasZ l r
  | _ :: _, [] => False

theorem tBads_mem : ∀ {l : List Ty} {x : Ty}, tBads l = false → x ∈ l → tBad x = false
  | [], _, _, h => by simp at h
  | t :: l, x, hb, h => by
    simp only [tBads, Bool.or_eq_false_iff] at hb
    rcases List.mem_cons.1 h with rfl | h
    · exact hb.1
    · exact tBads_mem hb.2 h
theorem tyArg_mem {t : Ty} {i : Nat} (h : i < (tyArgs t).length) : tyArg t i ∈ tyArgs t := by
  unfold tyArg; rw [List.getD_eq_getElem?_getD, List.getElem?_eq_getElem h]; exact List.getElem_mem h
theorem tBad_args {t : Ty} (h : tBad t = false) : arity (tyT t) = (tyArgs t).length ∧ tBads (tyArgs t) = false := by
  cases t with | mk T l => simpa [tBad, tyT, tyArgs] using h
theorem vHas_head {k n a : Int} {s : List UInt8} {args : List Vl} {types : List Ty} {code : List Nd} {t : Ty} (h : vHas (.mk k n a s args types code) t = true) : k = tyT t ∧ vPlain (.mk k n a s args types code) = true ∧ s.length ≤ 200 := by
  by_cases hc : k ≠ tyT t ∨ vPlain (.mk k n a s args types code) = false ∨ 200 < s.length
  · simp only [vHas, if_pos hc] at h; simp at h
  · simp only [not_or, ne_eq, Decidable.not_not, Bool.not_eq_false, Nat.not_lt] at hc; exact hc

structure CmpOk (x u y z : Int) (e : Prop) : Prop where
  neg : x = -u
  lo : -1 ≤ x
  hi : x ≤ 1
  zero : x = 0 ↔ e
  goes : Goes x y z

theorem CmpOk.sgn (a b c : Int) {e : Prop} (he : a = b ↔ e) : CmpOk (sgn a b) (Go.Abs.sgn b a) (Go.Abs.sgn b c) (Go.Abs.sgn a c) e := ⟨sgn_neg a b, (sgn_range a b).1, (sgn_range a b).2, sgn_zero.trans he, sgn_goes a b c⟩
theorem CmpOk.then {x u y z x' u' y' z' : Int} {e e' e'' : Prop} (h : CmpOk x u y z e) (h' : x = 0 → y = 0 → CmpOk x' u' y' z' e') (h2 : x = 0 → x' = -u' ∧ -1 ≤ x' ∧ x' ≤ 1 ∧ (x' = 0 ↔ e')) (he : e ∧ e' ↔ e'') :
    CmpOk (if x = 0 then x' else x) (if u = 0 then u' else u) (if y = 0 then y' else y) (if z = 0 then z' else z) e'' := by
  have hn := h.neg
  refine ⟨?_, ?_, ?_, ?_, goes_then h.goes fun h1 h3 => (h' h1 h3).goes⟩
  · by_cases hx : x = 0
    · rw [if_pos hx, if_pos (by omega)]; exact (h2 hx).1
    · rw [if_neg hx, if_neg (by omega)]; exact hn
  · by_cases hx : x = 0
    · rw [if_pos hx]; exact (h2 hx).2.1
    · rw [if_neg hx]; exact h.lo
  · by_cases hx : x = 0
    · rw [if_pos hx]; exact (h2 hx).2.2.1
    · rw [if_neg hx]; exact h.hi
  · by_cases hx : x = 0
    · rw [if_pos hx, (h2 hx).2.2.2, ← he]; simp [h.zero.1 hx]
    · rw [if_neg hx, ← he]
      constructor
      · intro hh; exact absurd hh hx
      · intro hh; exact absurd (h.zero.2 hh.1) hx

-- the reference
mutual
/-- Order -/
def rOrd : Vl → Vl → Int
  | .mk k n a s args types code, .mk k' n' a' s' args' types' code' =>
    if (if k = 9 then (args.length : Int) else n) < (if k = 9 then (args'.length : Int) else n') ∨ Op.bytesLess s s' = true then -1
    else if (if k = 9 then (args.length : Int) else n) > (if k = 9 then (args'.length : Int) else n') ∨ Op.bytesLess s' s = true then 1
    else rOrds args args'
def rOrds : List Vl → List Vl → Int
  | x :: l, y :: r => if rOrd x y = 0 then rOrds l r else rOrd x y
  | _, _ => 0
end
end Go.Abs

set_option linter.unusedVariables false
set_option linter.unusedSimpArgs false
namespace Go.Abs

mutual
/-- In a type, each map and ticket is of what can be compared. -/
def tKeys : Ty → Bool
  | .mk T args => (if T = 13 ∨ T = 15 then headComp args else true) && tsKeys args
def tsKeys : List Ty → Bool
  | [] => true
  | t :: l => tKeys t && tsKeys l
end
def vBody (k n a : Int) (args : List Vl) (types : List Ty) (t : Ty) : Bool :=
    if k = 1 ∨ k = 6 then decide (n = 0 ∧ args.length = 0)
    else if k = 2 then decide (0 ≤ n ∧ n ≤ 1 ∧ args.length = 0)
    else if k = 3 then decide (-maxI ≤ n ∧ n ≤ maxI ∧ args.length = 0)
    else if k = 4 ∨ k = 5 then decide (0 ≤ n ∧ n ≤ maxI ∧ args.length = 0)
    else if k = 7 then decide (0 ≤ n ∧ n < 12 ∧ args.length = 0)
    else if k = 9 then decide (n = 0 ∧ args.length ≤ 1) && vHasAll args (tyArg t 0)
    else if k = 10 then decide (n = 0 ∧ args.length ≤ 24) && vHasAll args (tyArg t 0)
    else if k = 11 then decide (n = 0 ∧ args.length = 2) && vHasRow args (tyArgs t)
    else if k = 12 then decide (0 ≤ n ∧ n ≤ 1 ∧ args.length = 1) && vHasAll args (tyArg t n.toNat)
    else if k = 13 then decide (n = 0 ∧ args.length ≤ 24) && vHasAll args (.mk 11 (tyArgs t)) && vUp args
    else if k = 14 then tySame (tyArg t 0) (types.getD 0 ty0) && tySame (tyArg t 1) (types.getD 1 ty0)
    else if k = 15 then decide (1 ≤ n ∧ n ≤ maxI ∧ 0 ≤ a ∧ a < 12 ∧ args.length = 1) && vHasAll args (tyArg t 0)
    else if k = 8 then decide (0 ≤ n ∧ n ≤ maxI ∧ 0 ≤ a ∧ a < 12 ∧ args.length = 1) && tGood (types.getD 0 ty0) && vHasAll args (types.getD 0 ty0)
    else false
/-- bare -/
def bareB (v : Vl) (bn ba bs : Bool) (args types : Int) (bc : Bool) : Bool := match v with
  | .mk _ n a s l ts code => (bn || n == 0) && ((ba || a == 0) && ((bs || s.isEmpty) && (decide ((l.length : Int) = args) && (decide ((ts.length : Int) = types) && (bc || decide (code.length = 0))))))
end Go.Abs

set_option linter.unusedVariables false
set_option linter.unusedSimpArgs false
namespace Go.Abs

mutual
/-- node -/
def vNode : Vl → Nd
  | .mk k n _ s args _ _ =>
    if k = 1 then .mk 2 0 20 [] []
    else if k = 2 then .mk 2 0 (22 - n) [] []
    else if k = 6 then .mk 1 0 0 s []
    else if k = 9 then .mk 2 0 (27 - args.length) [] (vNodes args)
    else if k = 10 then .mk 3 0 0 [] (vNodes args)
    else if k = 11 then .mk 2 0 23 [] (vNodes args)
    else if k = 12 then .mk 2 0 (24 + n) [] (vNodes args)
    else if k = 13 then .mk 3 0 0 [] (vElts args)
    else .mk 0 n 0 [] []
def vNodes : List Vl → List Nd
  | [] => []
  | x :: l => vNode x :: vNodes l
def vElts : List Vl → List Nd
  | [] => []
  | .mk _ _ _ _ args _ _ :: l => .mk 2 0 28 [] (vNodes args) :: vElts l
end
/-- What row answers, behind what it has. -/
def glue (acc : List Vl) : List Vl × Bool → List Vl × Bool
  | (q, true) => (acc ++ q, true)
  | (_, false) => ([], false)
def val0 (T : Int) : Vl := .mk T 0 0 [] [] [] []
mutual
/-- parse -/
def vPar : Nd → Ty → Vl × Bool
  | .mk kind N P S args, t =>
    if tyT t = 1 then (val0 1, decide (kind = 2 ∧ P = 20 ∧ args.length = 0))
    else if tyT t = 2 then (.mk 2 (IntKind.i64.wrap (22 - P)) 0 [] [] [] [], decide (kind = 2 ∧ (P = 21 ∨ P = 22) ∧ args.length = 0))
    else if tyT t = 3 ∨ tyT t = 4 ∨ tyT t = 5 ∨ tyT t = 7 then (.mk (tyT t) N 0 [] [] [] [], decide (kind = 0))
    else if tyT t = 6 then (.mk 6 0 0 S [] [] [], decide (kind = 1))
    else if tyT t = 9 then
      if kind = 2 ∧ P = 27 then (val0 9, decide (args.length = 0))
      else if kind = 2 ∧ P = 26 then (.mk 9 0 0 [] (vRow args (tyArgs t)).1 [] [], (vRow args (tyArgs t)).2)
      else (val0 9, false)
    else if tyT t = 11 then
      if kind = 2 ∧ P = 23 then (.mk 11 0 0 [] (vRow args (tyArgs t)).1 [] [], (vRow args (tyArgs t)).2)
      else (val0 11, false)
    else if tyT t = 12 then
      if kind = 2 ∧ P = 24 then (.mk 12 0 0 [] (vRow args [tyArg t 0]).1 [] [], (vRow args [tyArg t 0]).2)
      else if kind = 2 ∧ P = 25 then (.mk 12 1 0 [] (vRow args [tyArg t 1]).1 [] [], (vRow args [tyArg t 1]).2)
      else (val0 12, false)
    else if tyT t = 10 then (.mk 10 0 0 [] (vParAll args (tyArg t 0)).1 [] [], decide (kind = 3) && (vParAll args (tyArg t 0)).2)
    else if tyT t = 13 then (.mk 13 0 0 [] (vParMap args (tyArgs t)).1 [] [], decide (kind = 3) && (vParMap args (tyArgs t)).2)
    else (val0 (tyT t), false)
def vRow : List Nd → List Ty → List Vl × Bool
  | [], [] => ([], true)
  | x :: l, t :: r => if (vPar x t).2 = true then glue [(vPar x t).1] (vRow l r) else ([], false)
  | [], _ :: _ => ([], false)
  | _ :: _, [] => ([], false)
def vParAll : List Nd → Ty → List Vl × Bool
  | [], _ => ([], true)
  | x :: l, t => ((vPar x t).1 :: (vParAll l t).1, (vPar x t).2 && (vParAll l t).2)
def vParMap : List Nd → List Ty → List Vl × Bool
  | [], _ => ([], true)
  | .mk kind _ P _ xs :: l, ts => (.mk 11 0 0 [] (vRow xs ts).1 [] [] :: (vParMap l ts).1, ((vRow xs ts).2 && decide (kind = 2 ∧ P = 28)) && (vParMap l ts).2)
end

theorem glue_glue (a b : List Vl) (x : List Vl × Bool) : glue a (glue b x) = glue (a ++ b) x := by
  obtain ⟨q, c⟩ := x
  cases c <;> simp [glue]
theorem glue_nil (x : List Vl × Bool) (h : x.2 = false → x.1 = []) : glue [] x = x := by
  obtain ⟨q, c⟩ := x
  cases c
  · simp at h; subst h; rfl
  · simp [glue]
theorem vRow_false : ∀ (l : List Nd) (r : List Ty), (vRow l r).2 = false → (vRow l r).1 = []
  | [], [], h => by simp [vRow] at h
  | [], _ :: _, _ => by simp [vRow]
  | _ :: _, [], _ => by simp [vRow]
  | x :: l, t :: r, h => by
    simp only [vRow] at h ⊢
    by_cases hx : (vPar x t).2 = true
    · rw [if_pos hx] at h ⊢
      cases hr : vRow l r with
      | mk q c =>
        cases c with
        | false => rfl
        | true => rw [hr] at h; cases h
    · rw [if_neg hx]
theorem vRow_len : ∀ (l : List Nd) (r : List Ty), l.length ≠ r.length → vRow l r = ([], false)
  | [], [], h => by simp at h
  | [], _ :: _, _ => by simp [vRow]
  | _ :: _, [], _ => by simp [vRow]
  | x :: l, t :: r, h => by
    simp only [vRow, vRow_len l r (by simpa using h)]
    split <;> rfl

-- sizes
theorem glue_size (a : List Vl) (x : List Vl × Bool) : vlsSize (glue a x).1 ≤ vlsSize a + vlsSize x.1 := by
  obtain ⟨q, c⟩ := x
  cases c
  · simp [glue, vlsSize]
  · simp only [glue]
    have : ∀ a b : List Vl, vlsSize (a ++ b) = vlsSize a + vlsSize b := by
      intro a b
      induction a with
      | nil => simp [vlsSize]
      | cons x a ih => simp only [List.cons_append, vlsSize, ih]; omega
    rw [this]; omega
mutual
theorem vPar_size : ∀ (n : Nd) (t : Ty), vlSize (vPar n t).1 ≤ ndSize n
  | .mk kind N P S args, t => by
    have h1 := vRow_size args (tyArgs t)
    have h2 := vParAll_size args (tyArg t 0)
    have h3 := vParMap_size args (tyArgs t)
    have h4 := vRow_size args [tyArg t 0]
    have h5 := vRow_size args [tyArg t 1]
    simp only [vPar, ndSize, val0]
    repeat' split
    all_goals simp only [vlSize, vlsSize, tysSize, ndsSize, List.length_nil]; omega
theorem vRow_size : ∀ (l : List Nd) (r : List Ty), vlsSize (vRow l r).1 ≤ ndsSize l
  | [], [] => by simp [vRow, vlsSize]
  | [], _ :: _ => by simp [vRow, vlsSize]
  | _ :: _, [] => by simp [vRow, vlsSize]
  | x :: l, t :: r => by
    have h1 := vPar_size x t
    have h2 := vRow_size l r
    simp only [vRow, ndsSize]
    split
    · have := glue_size [(vPar x t).1] (vRow l r)
      simp only [vlsSize] at this; omega
    · simp [vlsSize]
theorem vParAll_size : ∀ (l : List Nd) (t : Ty), vlsSize (vParAll l t).1 ≤ ndsSize l
  | [], _ => by simp [vParAll, vlsSize]
  | x :: l, t => by
    have h1 := vPar_size x t
    have h2 := vParAll_size l t
    simp only [vParAll, ndsSize, vlsSize]; omega
theorem vParMap_size : ∀ (l : List Nd) (ts : List Ty), vlsSize (vParMap l ts).1 ≤ ndsSize l
  | [], _ => by simp [vParMap, vlsSize]
  | .mk kind N P S xs :: l, ts => by
    have h1 := vRow_size xs ts
    have h2 := vParMap_size l ts
    simp only [vParMap, ndsSize, ndSize, vlsSize, vlSize, tysSize, List.length_nil]; omega
end

-- what the plain parts of a value of a type are
-- what tells a value is read as it
end Go.Abs
namespace Go.Abs
-- what is read as a value of a type is just what tells it
/-- Parse -/
def tPar (t : Ty) (n : Nd) : Vl × Int := if tGood t = true ∧ tGoodN n = 0 ∧ (vPar n t).2 = true ∧ vHas (vPar n t).1 t = true then ((vPar n t).1, 0) else (vl0, 1)
/-- Node -/
def tVNode (t : Ty) (v : Vl) : Nd × Int := if tHas t v = true ∧ tPack t = true then (if tGoodN (vNode v) = 0 then (vNode v, 0) else (nd0, tGoodN (vNode v))) else (nd0, 5)
/-- Told -/
def tTold (v : Vl) : List UInt8 × Int := if tGoodN (vNode v) = 0 then (if 200 ≤ (bytesN (vNode v)).length then ([], 4) else (5 :: bytesN (vNode v), 0)) else ([], tGoodN (vNode v))
/-- Pack -/
def tVPack (t : Ty) (v : Vl) : List UInt8 × Int := if tHas t v = true ∧ tPack t = true then tTold v else ([], 5)
/-- Unpack -/
def tUnpack (t : Ty) (s : List UInt8) : Vl × Int := match s with
  | [] => (vl0, 1)
  | c :: r => if c = 5 ∧ (c :: r).length ≤ 200 ∧ tPack t = true ∧ (tDecode r).2 = 0 then tPar t (tDecode r).1 else (vl0, 1)
end Go.Abs

set_option linter.unusedVariables false
set_option linter.unusedSimpArgs false
namespace Go.Abs

/-- Types, whether it fails, the error. -/
abbrev CR := (List Ty × Bool) × Int
def cOk (s : List Ty) : CR := ((s, false), 0)
def cBad (e : Int) : CR := (([], false), e)
/-- shape -/
def cShape (p : Int) : List UInt8 :=
  if p = 41 ∨ p = 43 ∨ p = 44 then [110]
  else if p = 45 then [116, 118]
  else if p = 50 ∨ p = 51 ∨ p = 54 ∨ p = 56 ∨ p = 82 ∨ p = 88 then [116]
  else if p = 61 then [116, 116]
  else if p = 52 ∨ p = 55 ∨ p = 58 ∨ p = 64 then [99, 99]
  else if p = 60 ∨ p = 65 ∨ p = 68 then [99]
  else if p = 66 then [116, 116, 99]
  else []
/-- What fits finds, behind what it has. -/
def cFit : List UInt8 → List Nd → List Ty → Option (List Ty)
  | w :: ws, .mk kind N P S xs :: l, acc =>
    if w = 110 then (if kind = 0 ∧ 0 ≤ N ∧ N ≤ 40 then cFit ws l acc else none)
    else if w = 99 then (if kind = 3 then cFit ws l acc else none)
    else if w = 116 then (if (tParse (.mk kind N P S xs)).2 = 0 then cFit ws l (acc ++ [(tParse (.mk kind N P S xs)).1]) else none)
    else cFit ws l acc
  | _, _, acc => some acc
def cFits (p : Int) (args : List Nd) : Option (List Ty) := if p < 40 ∨ args.length ≠ (cShape p).length then none else cFit (cShape p) args []
/-- merge -/
def cMerge (a b : CR) : CR :=
  if a.2 ≠ 0 then cBad a.2 else if b.2 ≠ 0 then cBad b.2 else if a.1.2 = true then (b.1, 0) else if b.1.2 = true ∨ tysSame a.1.1 b.1.1 = true then (a.1, 0) else cBad 5
mutual
/-- mints -/
def nMint : Nd → Bool
  | .mk kind _ P _ args => decide (kind = 2 ∧ P = 84) || nMints args
def nMints : List Nd → Bool
  | [] => false
  | x :: l => nMint x || nMints l
end
def ndN : Nd → Int | .mk _ n _ _ _ => n
def ndArgs : Nd → List Nd | .mk _ _ _ _ l => l
/-- move -/
def cMove (P : Int) (args : List Nd) (s : List Ty) : CR :=
  if P = 40 then (match s with | _ :: r => cOk r | _ => cBad 5)
  else if P = 42 then (match s with | a :: b :: r => cOk (b :: a :: r) | _ => cBad 5)
  else if P = 41 then (if 1 ≤ ndN (args.getD 0 nd0) ∧ ndN (args.getD 0 nd0) ≤ s.length ∧ tCopy (s.getD (ndN (args.getD 0 nd0) - 1).toNat ty0) = true then cOk (s.getD (ndN (args.getD 0 nd0) - 1).toNat ty0 :: s) else cBad 5)
  else if P = 43 then (if ndN (args.getD 0 nd0) < s.length then cOk (s.getD (ndN (args.getD 0 nd0)).toNat ty0 :: (s.take (ndN (args.getD 0 nd0)).toNat ++ s.drop ((ndN (args.getD 0 nd0)).toNat + 1))) else cBad 5)
  else if P = 44 then (match s with | a :: r => if ndN (args.getD 0 nd0) < r.length + 1 then cOk (r.take (ndN (args.getD 0 nd0)).toNat ++ a :: r.drop (ndN (args.getD 0 nd0)).toNat) else cBad 5 | _ => cBad 5)
  else cBad 5
def cCode (codes : List (List Ty → CR)) (i : Nat) : List Ty → CR := codes.getD i (fun _ => cBad 1)
/-- shaping -/
def cShaping (P : Int) (codes : List (List Ty → CR)) (types s : List Ty) : CR :=
  if P = 54 then cOk (.mk 9 [types.getD 0 ty0] :: s)
  else if P = 56 then cOk (.mk 10 [types.getD 0 ty0] :: s)
  else match s with
    | [] => cBad 5
    | a :: r =>
      if P = 50 then cOk (.mk 12 [a, types.getD 0 ty0] :: r)
      else if P = 51 then cOk (.mk 12 [types.getD 0 ty0, a] :: r)
      else if P = 53 then cOk (.mk 9 [a] :: r)
      else if P = 46 then (match r with | b :: q => cOk (.mk 11 [a, b] :: q) | _ => cBad 5)
      else if P = 47 then (if tyT a = 11 then cOk (tyArgs a ++ r) else cBad 5)
      else if P = 48 then (if tyT a = 11 then cOk (tyArg a 0 :: r) else cBad 5)
      else if P = 49 then (if tyT a = 11 then cOk (tyArg a 1 :: r) else cBad 5)
      else if P = 57 then (match r with | b :: q => if tyT b = 10 ∧ tySame a (tyArg b 0) = true then cOk (b :: q) else cBad 5 | _ => cBad 5)
      else if P = 52 then (if tyT a = 12 then cMerge (cCode codes 0 (tyArg a 0 :: r)) (cCode codes 1 (tyArg a 1 :: r)) else cBad 5)
      else if P = 55 then (if tyT a = 9 then cMerge (cCode codes 0 r) (cCode codes 1 (tyArg a 0 :: r)) else cBad 5)
      else if P = 58 then (if tyT a = 10 then cMerge (cCode codes 0 (tyArg a 0 :: a :: r)) (cCode codes 1 r) else cBad 5)
      else cBad 5
/-- items -/
def cItems (P : Int) (codes : List (List Ty → CR)) (types s : List Ty) : CR :=
  if P = 61 then (if tComp (types.getD 0 ty0) = true then cOk (.mk 13 types :: s) else cBad 5)
  else if P = 59 then (match s with | a :: r => if tyT a = 6 ∨ tyT a = 10 ∨ tyT a = 13 then cOk (.mk 4 [] :: r) else cBad 5 | _ => cBad 5)
  else if P = 60 then (match s with | a :: r => if tyT a = 10 ∨ tyT a = 13 then cMerge (cCode codes 0 ((if tyT a = 13 then .mk 11 (tyArgs a) else tyArg a 0) :: r)) (cOk r) else cBad 5 | _ => cBad 5)
  else if P = 62 then (match s with | a :: b :: q => if tyT b = 13 ∧ tySame a (tyArg b 0) = true ∧ tCopy (tyArg b 1) = true then cOk (.mk 9 [tyArg b 1] :: q) else cBad 5 | _ => cBad 5)
  else if P = 63 then (match s with | a :: b :: c :: q => if tyT b = 9 ∧ tyT c = 13 ∧ tySame a (tyArg c 0) = true ∧ tySame (tyArg b 0) (tyArg c 1) = true then cOk (c :: q) else cBad 5 | _ => cBad 5)
  else cBad 5
/-- control -/
def cControl (P : Int) (args : List Nd) (codes : List (List Ty → CR)) (types s : List Ty) : CR :=
  if P = 66 then (if nMints (ndArgs (args.getD 2 nd0)) = true then cBad 5
    else if (cMerge (cCode codes 2 [types.getD 0 ty0]) (cOk [types.getD 1 ty0])).2 ≠ 0 then cBad (cMerge (cCode codes 2 [types.getD 0 ty0]) (cOk [types.getD 1 ty0])).2 else cOk (.mk 14 types :: s))
  else if P = 64 then (match s with | a :: r => if tyT a = 2 then cMerge (cCode codes 0 r) (cCode codes 1 r) else cBad 5 | _ => cBad 5)
  else if P = 65 then (match s with | a :: r => if tyT a = 2 then (if (cMerge (cCode codes 0 r) (cOk (a :: r))).2 ≠ 0 then cBad (cMerge (cCode codes 0 r) (cOk (a :: r))).2 else cOk r) else cBad 5 | _ => cBad 5)
  else if P = 67 then (match s with | a :: b :: q => if tyT b = 14 ∧ tySame a (tyArg b 0) = true then cOk (tyArg b 1 :: q) else cBad 5 | _ => cBad 5)
  else if P = 68 then (match s with | a :: r => if (cCode codes 0 r).2 ≠ 0 then cBad (cCode codes 0 r).2 else if (cCode codes 0 r).1.2 = true then cBad 1 else cOk (a :: (cCode codes 0 r).1.1) | _ => cBad 5)
  else cBad 5
/-- sum -/
def cSum (p a b : Int) : Int :=
  if a = 5 ∧ b = 5 ∧ (p = 69 ∨ p = 70 ∨ p = 72) then 5
  else if p = 71 ∧ (a = 5 ∧ b = 4 ∨ a = 4 ∧ b = 5) then 5
  else if p = 72 ∧ a = 5 ∧ b = 4 then 5
  else if (a = 3 ∨ a = 4) ∧ (b = 3 ∨ b = 4) then (if a = 4 ∧ b = 4 ∧ p ≠ 70 then 4 else 3)
  else 0
/-- numbers -/
def cNumbers (P : Int) (s : List Ty) : CR :=
  if P = 93 then (match s with | a :: r => if tyT a = 3 then cOk (.mk 4 [] :: r) else cBad 5 | _ => cBad 5)
  else if P = 94 then (match s with | a :: r => if tyT a = 3 then cOk (.mk 9 [.mk 4 []] :: r) else cBad 5 | _ => cBad 5)
  else if P = 95 then (match s with | a :: r => if tyT a = 4 then cOk (.mk 3 [] :: r) else cBad 5 | _ => cBad 5)
  else if P ≥ 93 then cBad 5
  else match s with
    | a :: b :: q =>
      if cSum P (tyT a) (tyT b) = 0 then cBad 5
      else if P = 70 ∧ cSum P (tyT a) (tyT b) = 5 then cOk (.mk 9 [.mk 5 []] :: q)
      else if P ≠ 72 then cOk (.mk (cSum P (tyT a) (tyT b)) [] :: q)
      else cOk (.mk 9 [.mk 11 [.mk (if tyT a = 5 ∧ tyT b = 5 then 4 else cSum P (tyT a) (tyT b)) [], .mk (if tyT a = 5 then 5 else 4) []]] :: q)
    | _ => cBad 5
/-- data -/
def cData (P : Int) (types s : List Ty) : CR :=
  match s with
  | [] => cBad 5
  | a :: r =>
    if P = 73 then (match r with | b :: q => if tySame a b = true ∧ tComp a = true then cOk (.mk 3 [] :: q) else cBad 5 | _ => cBad 5)
    else if P = 74 ∨ P = 75 ∨ P = 76 then (if tyT a = 3 then cOk (.mk 2 [] :: r) else cBad 5)
    else if P = 77 then (if tyT a = 2 then cOk (a :: r) else cBad 5)
    else if P = 78 ∨ P = 79 then (match r with | b :: q => if tyT a = 2 ∧ tyT b = 2 then cOk (b :: q) else cBad 5 | _ => cBad 5)
    else if P = 80 then (match r with | b :: q => if tyT a = 6 ∧ tyT b = 6 then cOk (b :: q) else cBad 5 | _ => cBad 5)
    else if P = 81 then (if tPack a = true then cOk (.mk 6 [] :: r) else cBad 5)
    else if P = 82 then (if tyT a = 6 ∧ tPack (types.getD 0 ty0) = true then cOk (.mk 9 [types.getD 0 ty0] :: r) else cBad 5)
    else if P = 83 then (if tPack a = true then (([], true), 0) else cBad 5)
    else cBad 5
/-- world -/
def cWorld (P : Int) (types s : List Ty) : CR :=
  if P = 89 ∨ P = 90 then cOk (.mk 7 [] :: s)
  else if P = 91 ∨ P = 92 then cOk (.mk 5 [] :: s)
  else match s with
    | [] => cBad 5
    | a :: r =>
      if P = 84 then (match r with | b :: q => if tyT b = 4 ∧ tComp a = true then cOk (.mk 9 [.mk 15 [a]] :: q) else cBad 5 | _ => cBad 5)
      else if P = 85 then (if tyT a = 15 then cOk (.mk 11 [.mk 7 [], .mk 11 [tyArg a 0, .mk 4 []]] :: a :: r) else cBad 5)
      else if P = 86 then (match r with | b :: q => if tyT a = 15 ∧ tyT b = 11 ∧ tyT (tyArg b 0) = 4 ∧ tyT (tyArg b 1) = 4 then cOk (.mk 9 [.mk 11 [a, a]] :: q) else cBad 5 | _ => cBad 5)
      else if P = 87 then (if tyT a = 11 ∧ tyT (tyArg a 0) = 15 ∧ tySame (tyArg a 0) (tyArg a 1) = true then cOk (.mk 9 [tyArg a 0] :: r) else cBad 5)
      else if P = 88 then (match r with | b :: c :: q => if tyT b = 5 ∧ tyT c = 7 ∧ tySame a (types.getD 0 ty0) = true ∧ tStore a = true then cOk (.mk 8 [] :: q) else cBad 5 | _ => cBad 5)
      else cBad 5
/-- instruction -/
def cInstr (P : Int) (args : List Nd) (codes : List (List Ty → CR)) (types s : List Ty) : CR :=
  if P ≤ 44 then cMove P args s
  else if P = 45 then (if (tPar (types.getD 0 ty0) (args.getD 1 nd0)).2 = 0 ∧ tPack (types.getD 0 ty0) = true then cOk (types.getD 0 ty0 :: s) else cBad 5)
  else if P ≤ 58 then cShaping P codes types s
  else if P ≤ 63 then cItems P codes types s
  else if P ≤ 68 then cControl P args codes types s
  else if P ≤ 72 ∨ P ≥ 93 then cNumbers P s
  else if P ≤ 83 then cData P types s
  else cWorld P types s
/-- What row looks at behind a step. -/
def cLook (r : CR) : CR := if r.2 ≠ 0 then cBad r.2 else if 40 < r.1.1.length then cBad 7 else if r.1.1.all tGood = true then (r.1, 0) else cBad 4
mutual
/-- row, from what there is -/
def cRow : List Nd → List Ty × Bool → CR
  | [], o => (o, 0)
  | n :: l, o => if o.2 = true then cBad 1 else if (cLook (cStep n o.1)).2 ≠ 0 then cBad (cLook (cStep n o.1)).2 else cRow l (cLook (cStep n o.1)).1
/-- step -/
def cStep : Nd → List Ty → CR
  | .mk kind N P S args, s =>
    if kind = 3 then cRow args (s, false)
    else if kind ≠ 2 then cBad 1
    else match cFits P args with
      | none => cBad 1
      | some types => cInstr P args (cCodes args) types s
def cCodes : List Nd → List (List Ty → CR)
  | [] => []
  | .mk _ _ _ _ a :: l => (fun s => cRow a (s, false)) :: cCodes l
end
/-- Code -/
def cTop (n : Nd) (s : List Ty) : CR :=
  if tGoodN n ≠ 0 then cBad (tGoodN n)
  else match n with
    | .mk kind _ _ _ args => if kind ≠ 3 then cBad 1 else if 40 < s.length then cBad 7 else if s.all tGood = true then cRow args (s, false) else cBad 5

-- what fails has no types
def NF (a : CR) : Prop := a.2 = 0 → a.1.2 = true → a.1.1 = []
theorem NF_ok (s : List Ty) : NF (cOk s) := fun _ h => by cases h
theorem NF_bad (e : Int) : NF (cBad e) := fun _ h => by cases h
theorem NF_merge {a b : CR} (ha : NF a) (hb : NF b) : NF (cMerge a b) := by
  unfold cMerge
  split
  · exact NF_bad _
  · split
    · exact NF_bad _
    · rename_i h1 h2
      simp only [ne_eq, Decidable.not_not] at h1 h2
      split
      · exact fun _ h => hb h2 h
      · split
        · exact fun _ h => ha h1 h
        · exact NF_bad _
theorem NF_ite {p : Prop} [Decidable p] {a b : CR} (h1 : NF a) (h2 : NF b) : NF (if p then a else b) := by
  by_cases c : p
  · rw [if_pos c]; exact h1
  · rw [if_neg c]; exact h2
theorem NF_shaping (P : Int) (codes : List (List Ty → CR)) (types s : List Ty) (hc : ∀ i s, NF (cCode codes i s)) : NF (cShaping P codes types s) := by
  unfold cShaping
  rcases s with _ | ⟨a, _ | ⟨b, _ | ⟨c, s⟩⟩⟩
  all_goals
    dsimp only
    repeat' (first | exact NF_merge (hc _ _) (hc _ _) | exact NF_merge (hc _ _) (NF_ok _) | refine NF_ite ?_ ?_)
    all_goals first | exact NF_ok _ | exact NF_bad _ | exact NF_merge (hc _ _) (hc _ _)
theorem NF_items (P : Int) (codes : List (List Ty → CR)) (types s : List Ty) (hc : ∀ i s, NF (cCode codes i s)) : NF (cItems P codes types s) := by
  unfold cItems
  rcases s with _ | ⟨a, _ | ⟨b, _ | ⟨c, s⟩⟩⟩
  all_goals
    dsimp only
    repeat' (first | exact NF_merge (hc _ _) (hc _ _) | exact NF_merge (hc _ _) (NF_ok _) | refine NF_ite ?_ ?_)
    all_goals first | exact NF_ok _ | exact NF_bad _ | exact NF_merge (hc _ _) (NF_ok _)
theorem NF_control (P : Int) (args : List Nd) (codes : List (List Ty → CR)) (types s : List Ty) (hc : ∀ i s, NF (cCode codes i s)) : NF (cControl P args codes types s) := by
  unfold cControl
  rcases s with _ | ⟨a, _ | ⟨b, _ | ⟨c, s⟩⟩⟩
  all_goals
    dsimp only
    repeat' (first | exact NF_merge (hc _ _) (hc _ _) | exact NF_merge (hc _ _) (NF_ok _) | refine NF_ite ?_ ?_)
    all_goals first | exact NF_ok _ | exact NF_bad _ | exact NF_merge (hc _ _) (hc _ _)
theorem NF_move (P : Int) (args : List Nd) (s : List Ty) : NF (cMove P args s) := by
  unfold cMove
  rcases s with _ | ⟨a, _ | ⟨b, _ | ⟨c, s⟩⟩⟩
  all_goals
    dsimp only
    repeat' (refine NF_ite ?_ ?_)
    all_goals first | exact NF_ok _ | exact NF_bad _
theorem NF_numbers (P : Int) (s : List Ty) : NF (cNumbers P s) := by
  unfold cNumbers
  rcases s with _ | ⟨a, _ | ⟨b, _ | ⟨c, s⟩⟩⟩
  all_goals
    dsimp only
    repeat' (refine NF_ite ?_ ?_)
    all_goals first | exact NF_ok _ | exact NF_bad _
theorem NF_data (P : Int) (types s : List Ty) : NF (cData P types s) := by
  unfold cData
  rcases s with _ | ⟨a, _ | ⟨b, _ | ⟨c, s⟩⟩⟩
  all_goals
    dsimp only
    repeat' (refine NF_ite ?_ ?_)
    all_goals first | exact NF_ok _ | exact NF_bad _ | exact fun _ _ => rfl
theorem NF_world (P : Int) (types s : List Ty) : NF (cWorld P types s) := by
  unfold cWorld
  rcases s with _ | ⟨a, _ | ⟨b, _ | ⟨c, s⟩⟩⟩
  all_goals
    dsimp only
    repeat' (refine NF_ite ?_ ?_)
    all_goals first | exact NF_ok _ | exact NF_bad _
theorem NF_instr (P : Int) (args : List Nd) (codes : List (List Ty → CR)) (types s : List Ty) (hc : ∀ i s, NF (cCode codes i s)) : NF (cInstr P args codes types s) := by
  unfold cInstr
  repeat' split
  all_goals first | exact NF_move _ _ _ | exact NF_ok _ | exact NF_bad _ | exact NF_shaping _ _ _ _ hc | exact NF_items _ _ _ _ hc | exact NF_control _ _ _ _ _ hc | exact NF_numbers _ _ | exact NF_data _ _ _ | exact NF_world _ _ _
theorem cLook_ok {r : CR} (h : (cLook r).2 = 0) : r.2 = 0 ∧ cLook r = (r.1, 0) ∧ r.1.1.length ≤ 40 ∧ r.1.1.all tGood = true := by
  unfold cLook at h ⊢
  by_cases h1 : r.2 ≠ 0
  · rw [if_pos h1] at h; exact absurd h h1
  rw [if_neg h1] at h ⊢
  by_cases h2 : 40 < r.1.1.length
  · rw [if_pos h2] at h; simp [cBad] at h
  rw [if_neg h2] at h ⊢
  by_cases h3 : r.1.1.all tGood = true
  · rw [if_pos h3] at h ⊢
    exact ⟨by simpa using h1, rfl, by omega, h3⟩
  · rw [if_neg h3] at h; simp [cBad] at h
mutual
theorem NF_row : ∀ (l : List Nd) (o : List Ty × Bool), (o.2 = true → o.1 = []) → NF (cRow l o)
  | [], o, h => fun _ h2 => h h2
  | n :: l, o, h => by
    have h1 := NF_step n
    simp only [cRow]
    split
    · exact NF_bad _
    · split
      · exact NF_bad _
      · rename_i h2 h3
        simp only [ne_eq, Decidable.not_not] at h3
        obtain ⟨e1, e2, _⟩ := cLook_ok h3
        rw [e2]
        exact NF_row l _ (fun hf => h1 _ e1 hf)
theorem NF_step : ∀ (n : Nd) (s : List Ty), NF (cStep n s)
  | .mk kind N P S args, s => by
    have h1 := NF_row args (s, false) (fun h => by cases h)
    have h2 := NF_codes args
    simp only [cStep]
    split
    · exact h1
    · split
      · exact NF_bad _
      · split
        · exact NF_bad _
        · exact NF_instr _ _ _ _ _ h2
theorem NF_codes : ∀ (l : List Nd) (i : Nat) (s : List Ty), NF (cCode (cCodes l) i s)
  | [], i, s => by simp only [cCodes, cCode, List.getD_nil]; exact NF_bad _
  | .mk k n p q a :: l, 0, s => by
    have := NF_row a (s, false) (fun h => by cases h)
    simpa [cCodes, cCode] using this
  | .mk k n p q a :: l, i + 1, s => by
    have := NF_codes l i s
    simpa [cCodes, cCode] using this
end
-- what it leads to is good
theorem cRow_good : ∀ (l : List Nd) (o : List Ty × Bool), o.1.all tGood = true → o.1.length ≤ 40 → (cRow l o).2 = 0 → (cRow l o).1.1.all tGood = true ∧ (cRow l o).1.1.length ≤ 40
  | [], o, h1, h2, _ => ⟨h1, h2⟩
  | n :: l, o, h1, h2, h => by
    simp only [cRow] at h ⊢
    by_cases c : o.2 = true
    · rw [if_pos c] at h; simp [cBad] at h
    rw [if_neg c] at h ⊢
    by_cases c2 : (cLook (cStep n o.1)).2 ≠ 0
    · rw [if_pos c2] at h; exact absurd h c2
    rw [if_neg c2] at h ⊢
    simp only [ne_eq, Decidable.not_not] at c2
    obtain ⟨e1, e2, e3, e4⟩ := cLook_ok c2
    rw [e2] at h ⊢
    exact cRow_good l _ e4 e3 h
theorem cTop_bad {n : Nd} {s : List Ty} (h : (cTop n s).2 ≠ 0) : (cTop n s).1 = ([], false) ∨ ∃ args, cTop n s = cRow args (s, false) := by
  unfold cTop at h ⊢
  split
  · exact .inl rfl
  · split
    split
    · exact .inl rfl
    · split
      · exact .inl rfl
      · split
        · exact .inr ⟨_, rfl⟩
        · exact .inl rfl
theorem cRow_bad : ∀ (l : List Nd) (o : List Ty × Bool), (cRow l o).2 ≠ 0 → (cRow l o).1 = ([], false)
  | [], o, h => by simp [cRow] at h
  | n :: l, o, h => by
    simp only [cRow] at h ⊢
    by_cases c : o.2 = true
    · rw [if_pos c]; rfl
    rw [if_neg c] at h ⊢
    by_cases c2 : (cLook (cStep n o.1)).2 ≠ 0
    · rw [if_pos c2]; rfl
    rw [if_neg c2] at h ⊢
    exact cRow_bad l _ h
theorem cTop_err {n : Nd} {s : List Ty} (h : (cTop n s).2 ≠ 0) : (cTop n s).1 = ([], false) := by
  rcases cTop_bad h with h1 | ⟨args, h1⟩
  · exact h1
  · rw [h1] at h ⊢; exact cRow_bad args _ h
theorem cTop_good {n : Nd} {s : List Ty} (h : (cTop n s).2 = 0) : (cTop n s).1.1.all tGood = true ∧ (cTop n s).1.1.length ≤ 40 ∧ ((cTop n s).1.2 = true → (cTop n s).1.1 = []) := by
  obtain ⟨kind, N, P, S, args⟩ := n
  unfold cTop at h ⊢
  by_cases c1 : tGoodN (.mk kind N P S args) ≠ 0
  · rw [if_pos c1] at h; exact absurd h c1
  rw [if_neg c1] at h ⊢
  simp only at h ⊢
  by_cases c2 : kind ≠ 3
  · rw [if_pos c2] at h; simp [cBad] at h
  rw [if_neg c2] at h ⊢
  by_cases c3 : 40 < s.length
  · rw [if_pos c3] at h; simp [cBad] at h
  rw [if_neg c3] at h ⊢
  by_cases c4 : s.all tGood = true
  · rw [if_pos c4] at h ⊢
    have g := cRow_good args (s, false) c4 (by simpa using c3) h
    exact ⟨g.1, g.2, NF_row args (s, false) (fun h => by cases h) h⟩
  · rw [if_neg c4] at h; simp [cBad] at h

-- two pieces, one behind the other
theorem cRow_append : ∀ (a b : List Nd) (o : List Ty × Bool), (cRow a o).2 = 0 → cRow (a ++ b) o = cRow b (cRow a o).1
  | [], b, o, _ => rfl
  | n :: a, b, o, h => by
    simp only [cRow, List.cons_append] at h ⊢
    by_cases c : o.2 = true
    · rw [if_pos c] at h; simp [cBad] at h
    rw [if_neg c] at h ⊢
    by_cases c2 : (cLook (cStep n o.1)).2 ≠ 0
    · rw [if_pos c2] at h; exact absurd h c2
    rw [if_neg c2] at h ⊢
    rw [if_neg c]
    simp only [if_neg c2] at h ⊢
    exact cRow_append a b _ h
theorem wrongs_append : ∀ (a b : List Nd) (d : Int), wrongs a d = 0 → wrongs (a ++ b) d = wrongs b d
  | [], b, d, _ => rfl
  | x :: a, b, d, h => by
    simp only [wrongs, List.cons_append] at h ⊢
    by_cases c : wrong x d = 0
    · rw [if_pos c] at h ⊢; exact wrongs_append a b d h
    · rw [if_neg c] at h; exact absurd h c
theorem manys_append : ∀ (a b : List Nd), manys (a ++ b) = manys a + manys b
  | [], b => by simp [manys]
  | x :: a, b => by simp only [List.cons_append, manys, manys_append a b]; omega
def ndK : Nd → Int | .mk k _ _ _ _ => k
theorem cTop_ok {n : Nd} {s : List Ty} (h : (cTop n s).2 = 0) : tGoodN n = 0 ∧ ndK n = 3 ∧ s.length ≤ 40 ∧ s.all tGood = true ∧ cTop n s = cRow (ndArgs n) (s, false) := by
  obtain ⟨kind, N, P, S, args⟩ := n
  unfold cTop at h ⊢
  by_cases c1 : tGoodN (.mk kind N P S args) ≠ 0
  · rw [if_pos c1] at h; exact absurd h c1
  rw [if_neg c1] at h ⊢
  simp only at h ⊢
  by_cases c2 : kind ≠ 3
  · rw [if_pos c2] at h; simp [cBad] at h
  rw [if_neg c2] at h ⊢
  by_cases c3 : 40 < s.length
  · rw [if_pos c3] at h; simp [cBad] at h
  rw [if_neg c3] at h ⊢
  by_cases c4 : s.all tGood = true
  · rw [if_pos c4] at h ⊢
    exact ⟨by simpa using c1, by simpa [ndK] using c2, by omega, c4, rfl⟩
  · rw [if_neg c4] at h; simp [cBad] at h
theorem cTop_of {n : Nd} {s : List Ty} (h1 : tGoodN n = 0) (h2 : ndK n = 3) : cTop n s = if 40 < s.length then cBad 7 else if s.all tGood = true then cRow (ndArgs n) (s, false) else cBad 5 := by
  obtain ⟨kind, N, P, S, args⟩ := n
  unfold cTop
  rw [if_neg (by simpa using h1)]
  simp only [ndK] at h2
  simp only [ndArgs]
  rw [if_neg (by simpa using h2)]
theorem seq_good {a b : Nd} (ha : tGoodN a = 0) (hb : tGoodN b = 0) (ka : ndK a = 3) (kb : ndK b = 3) (hm : many a + many b ≤ 300) : tGoodN (.mk 3 0 0 [] (ndArgs a ++ ndArgs b)) = 0 := by
  obtain ⟨k1, n1, p1, s1, x⟩ := a
  obtain ⟨k2, n2, p2, s2, y⟩ := b
  simp only [ndK] at ka kb
  subst ka; subst kb
  obtain ⟨wa, _⟩ := wrong_eq (tGoodN_zero.1 ha).1
  obtain ⟨wb, _⟩ := wrong_eq (tGoodN_zero.1 hb).1
  have ga := (wrong_eq (tGoodN_zero.1 ha).1).2
  have gb := (wrong_eq (tGoodN_zero.1 hb).1).2
  rw [tGoodN_zero]
  simp only [ndArgs]
  constructor
  · simp only [wrong]
    rw [if_pos (by simp [wrong1])]
    rw [wrongs_append _ _ _ ga]; exact gb
  · simp only [many, manys_append] at hm ⊢; omega
theorem cTop_parts {a b : Nd} {s : List Ty} (ha : (cTop a s).2 = 0) (hf : (cTop a s).1.2 = false) (hb : (cTop b (cTop a s).1.1).2 = 0) (hm : many a + many b ≤ 300) :
    cTop (.mk 3 0 0 [] (ndArgs a ++ ndArgs b)) s = cTop b (cTop a s).1.1 := by
  obtain ⟨a1, a2, a3, a4, a5⟩ := cTop_ok ha
  obtain ⟨b1, b2, b3, b4, b5⟩ := cTop_ok hb
  rw [cTop_of (seq_good a1 b1 a2 b2 hm) rfl, if_neg (by omega), if_pos a4, b5]
  show cRow (ndArgs a ++ ndArgs b) (s, false) = _
  rw [a5] at ha hf ⊢
  rw [cRow_append _ _ _ ha]
  exact congrArg (cRow (ndArgs b)) (Prod.ext rfl hf)

-- what lies beneath
/-- The second answers as the first, with more beneath, or is too high. -/
def Fr (more : List Ty) (a b : CR) : Prop := a.2 = 0 → b.2 = 7 ∨ b.2 = 0 ∧ b.1.2 = a.1.2 ∧ (a.1.2 = false → b.1.1 = a.1.1 ++ more)
end Go.Abs

set_option linter.unusedVariables false
set_option linter.unusedSimpArgs false
namespace Go.Abs
mutual
/-- All parts are there. -/
def tMade : Ty → Bool
  | .mk T args => decide (arity T = args.length) && tMades args
def tMades : List Ty → Bool
  | [] => true
  | t :: l => tMade t && tMades l
end
mutual
theorem kGood_made : ∀ (t : Ty) (d n : Int), n ≤ 300 → (kGood t d n).1 = true → tMade t = true ∧ (kGood t d n).2 = n + tySize t
  | .mk T args, d, n, hn, h => by
    simp only [kGood] at h ⊢
    by_cases c : d > 24 ∨ n + 1 > 300 ∨ arity T ≠ args.length
    · rw [if_pos c] at h; simp at h
    rw [if_neg c] at h ⊢
    have ih := kGoods_made args (d + 1) (n + 1) (by omega)
    rcases hr : kGoods args (d + 1) (n + 1) with ⟨b, m⟩
    rw [hr] at h ih
    cases b with
    | false => simp at h
    | true =>
      obtain ⟨i1, i2⟩ := ih rfl
      simp only at i2 ⊢
      refine ⟨?_, ?_⟩
      · have : arity T = args.length := by omega
        simp [tMade, this, i1]
      · simp only [tySize]; omega
theorem kGoods_made : ∀ (l : List Ty) (d n : Int), n ≤ 300 → (kGoods l d n).1 = true → tMades l = true ∧ (kGoods l d n).2 = n + tysSize l
  | [], d, n, hn, h => by simp [kGoods, tMades, tysSize]
  | t :: l, d, n, hn, h => by
    simp only [kGoods] at h ⊢
    have ih := kGood_made t d n hn
    have hle := kGood_le t d n hn
    rcases hr : kGood t d n with ⟨b, m⟩
    rw [hr] at h ih hle
    cases b with
    | false => simp at h
    | true =>
      obtain ⟨i1, i2⟩ := ih rfl
      have hm := hle.2.2 rfl
      simp only at h i2 hm ⊢
      obtain ⟨j1, j2⟩ := kGoods_made l d m hm h
      refine ⟨by simp [tMades, i1, j1], ?_⟩
      simp only [tysSize]; omega
end
def tyOk (t : Ty) : Prop := tMade t = true ∧ tySize t ≤ 300
theorem tyOk_good {t : Ty} (h : tGood t = true) : tyOk t := by
  obtain ⟨h1, h2⟩ := kGood_made t 1 0 (by omega) h
  have h3 := (kGood_le t 1 0 (by omega)).2.2 h
  exact ⟨h1, by omega⟩
theorem tMades_mem : ∀ {l : List Ty} {x : Ty}, tMades l = true → x ∈ l → tMade x = true
  | t :: l, x, h, hx => by
    simp only [tMades, Bool.and_eq_true] at h
    rcases List.mem_cons.1 hx with rfl | hx
    · exact h.1
    · exact tMades_mem h.2 hx
theorem tyOk_args {T : Int} {l : List Ty} (h : tyOk (.mk T l)) : arity T = l.length ∧ ∀ x ∈ l, tyOk x := by
  obtain ⟨h1, h2⟩ := h
  simp only [tMade, Bool.and_eq_true, decide_eq_true_eq, tySize] at h1 h2
  exact ⟨h1.1, fun x hx => ⟨tMades_mem h1.2 hx, by have := tysSize_mem hx; omega⟩⟩
theorem tyOk_one {T : Int} {l : List Ty} (h : tyOk (.mk T l)) (ha : arity T = 1) : ∃ x, l = [x] ∧ tyOk x := by
  obtain ⟨h1, h2⟩ := tyOk_args h
  rcases l with _ | ⟨x, _ | ⟨y, l⟩⟩
  · simp at h1; omega
  · exact ⟨x, rfl, h2 x (by simp)⟩
  · simp at h1; omega
theorem tyOk_two {T : Int} {l : List Ty} (h : tyOk (.mk T l)) (ha : arity T = 2) : ∃ x y, l = [x, y] ∧ tyOk x ∧ tyOk y := by
  obtain ⟨h1, h2⟩ := tyOk_args h
  rcases l with _ | ⟨x, _ | ⟨y, _ | ⟨z, l⟩⟩⟩
  · simp at h1; omega
  · simp at h1; omega
  · exact ⟨x, y, rfl, h2 x (by simp), h2 y (by simp)⟩
  · simp at h1; omega
theorem tyOk_map {T U : Int} {l : List Ty} (h : tyOk (.mk T l)) (ha : arity T = arity U) : tyOk (.mk U l) := by
  obtain ⟨h1, h2⟩ := h
  simp only [tMade, tySize, ha] at h1 h2
  exact ⟨by simpa [tMade] using h1, by simpa [tySize] using h2⟩
def sOk (s : List Ty) : Prop := ∀ t ∈ s, tyOk t
theorem sOk_cons {t : Ty} {s : List Ty} (h : sOk (t :: s)) : tyOk t ∧ sOk s := ⟨h t (by simp), fun x hx => h x (by simp [hx])⟩
theorem sOk_put {t : Ty} {s : List Ty} (h1 : tyOk t) (h2 : sOk s) : sOk (t :: s) := fun x hx => by
  rcases List.mem_cons.1 hx with rfl | hx
  · exact h1
  · exact h2 x hx
theorem sOk_nil : sOk [] := fun x hx => by simp at hx
theorem sOk_good {s : List Ty} (h : s.all tGood = true) : sOk s := fun t ht => tyOk_good (List.all_eq_true.1 h t ht)

theorem tParse_good {n : Nd} (h : (tParse n).2 = 0) : tGood (tParse n).1 = true := by
  unfold tParse at h ⊢
  split at h
  · split at h
    · rename_i h1 h2
      simp [h1, h2]
    · simp at h
  · simp at h

theorem cFits_nil {P : Int} {args : List Nd} {types : List Ty} (h : cFits P args = some types) (hs : cShape P = []) : args = [] ∧ types = [] := by
  unfold cFits at h
  rw [hs] at h
  split at h
  · simp at h
  · rename_i c
    rcases args with _ | ⟨x, l⟩
    · simp [cFit] at h; exact ⟨rfl, h⟩
    · simp at c
theorem cFits_n {P : Int} {args : List Nd} {types : List Ty} (h : cFits P args = some types) (hs : cShape P = [110]) : ∃ N p S xs, args = [.mk 0 N p S xs] ∧ 0 ≤ N ∧ N ≤ 40 ∧ types = [] := by
  unfold cFits at h
  rw [hs] at h
  split at h
  · simp at h
  · rename_i c
    rcases args with _ | ⟨⟨k, N, p, S, xs⟩, _ | ⟨y, l⟩⟩
    · simp at c
    · simp [cFit] at h
      obtain ⟨⟨rfl, h1, h2⟩, h3⟩ := h
      exact ⟨N, p, S, xs, rfl, h1, h2, h3⟩
    · simp at c
theorem cFits_t {P : Int} {args : List Nd} {types : List Ty} (h : cFits P args = some types) (hs : cShape P = [116]) : ∃ x t, args = [x] ∧ types = [t] ∧ tyOk t := by
  unfold cFits at h
  rw [hs] at h
  split at h
  · simp at h
  · rename_i c
    rcases args with _ | ⟨⟨k, N, p, S, xs⟩, _ | ⟨y, l⟩⟩
    · simp at c
    · simp [cFit] at h
      exact ⟨_, _, rfl, h.2.symm, tyOk_good (tParse_good h.1)⟩
    · simp at c
theorem cFits_tv {P : Int} {args : List Nd} {types : List Ty} (h : cFits P args = some types) (hs : cShape P = [116, 118]) : ∃ x y t, args = [x, y] ∧ types = [t] ∧ tyOk t := by
  unfold cFits at h
  rw [hs] at h
  split at h
  · simp at h
  · rename_i c
    rcases args with _ | ⟨⟨k, N, p, S, xs⟩, _ | ⟨⟨k', N', p', S', xs'⟩, _ | ⟨z, l⟩⟩⟩
    · simp at c
    · simp at c
    · simp [cFit] at h
      exact ⟨_, _, _, rfl, h.2.symm, tyOk_good (tParse_good h.1)⟩
    · simp at c
theorem cFits_tt {P : Int} {args : List Nd} {types : List Ty} (h : cFits P args = some types) (hs : cShape P = [116, 116]) : ∃ x y t u, args = [x, y] ∧ types = [t, u] ∧ tyOk t ∧ tyOk u := by
  unfold cFits at h
  rw [hs] at h
  split at h
  · simp at h
  · rename_i c
    rcases args with _ | ⟨⟨k, N, p, S, xs⟩, _ | ⟨⟨k', N', p', S', xs'⟩, _ | ⟨z, l⟩⟩⟩
    · simp at c
    · simp at c
    · simp [cFit] at h
      exact ⟨_, _, _, _, rfl, h.2.2.symm, tyOk_good (tParse_good h.1), tyOk_good (tParse_good h.2.1)⟩
    · simp at c
theorem cFits_c {P : Int} {args : List Nd} {types : List Ty} (h : cFits P args = some types) (hs : cShape P = [99]) : ∃ N p S xs, args = [.mk 3 N p S xs] ∧ types = [] := by
  unfold cFits at h
  rw [hs] at h
  split at h
  · simp at h
  · rename_i c
    rcases args with _ | ⟨⟨k, N, p, S, xs⟩, _ | ⟨y, l⟩⟩
    · simp at c
    · simp [cFit] at h
      obtain ⟨rfl, h3⟩ := h
      exact ⟨N, p, S, xs, rfl, h3⟩
    · simp at c
theorem cFits_cc {P : Int} {args : List Nd} {types : List Ty} (h : cFits P args = some types) (hs : cShape P = [99, 99]) : ∃ N p S xs N' p' S' xs', args = [.mk 3 N p S xs, .mk 3 N' p' S' xs'] ∧ types = [] := by
  unfold cFits at h
  rw [hs] at h
  split at h
  · simp at h
  · rename_i c
    rcases args with _ | ⟨⟨k, N, p, S, xs⟩, _ | ⟨⟨k', N', p', S', xs'⟩, _ | ⟨z, l⟩⟩⟩
    · simp at c
    · simp at c
    · simp [cFit] at h
      obtain ⟨rfl, rfl, h3⟩ := h
      exact ⟨N, p, S, xs, N', p', S', xs', rfl, h3⟩
    · simp at c
theorem cFits_ttc {P : Int} {args : List Nd} {types : List Ty} (h : cFits P args = some types) (hs : cShape P = [116, 116, 99]) : ∃ x y N p S xs t u, args = [x, y, .mk 3 N p S xs] ∧ types = [t, u] ∧ tyOk t ∧ tyOk u := by
  unfold cFits at h
  rw [hs] at h
  split at h
  · simp at h
  · rename_i c
    rcases args with _ | ⟨⟨k, N, p, S, xs⟩, _ | ⟨⟨k', N', p', S', xs'⟩, _ | ⟨⟨k2, N2, p2, S2, xs2⟩, _ | ⟨w, l⟩⟩⟩⟩
    · simp at c
    · simp at c
    · simp at c
    · simp [cFit] at h
      obtain ⟨h1, h2, rfl, h3⟩ := h
      exact ⟨_, _, N2, p2, S2, xs2, _, _, rfl, h3.symm, tyOk_good (tParse_good h1), tyOk_good (tParse_good h2)⟩
    · simp at c
theorem cCodes_cons (x : Nd) (l : List Nd) : cCodes (x :: l) = (fun s => cRow (ndArgs x) (s, false)) :: cCodes l := by
  cases x; simp only [cCodes, ndArgs]
theorem sOk_bad (e : Int) : sOk (cBad e).1.1 := fun x hx => by simp [cBad] at hx
/-- Where a row leads to: good types, or what there was. -/
theorem cRow_ok : ∀ (l : List Nd) (o : List Ty × Bool), sOk o.1 → sOk (cRow l o).1.1 ∧ (cRow l o).1.1.length ≤ o.1.length + 40
  | [], o, h => by simp only [cRow]; exact ⟨h, by omega⟩
  | n :: l, o, h => by
    simp only [cRow]
    split
    · exact ⟨sOk_bad _, by simp [cBad]⟩
    · split
      · exact ⟨sOk_bad _, by simp [cBad]⟩
      · rename_i h1 h2
        obtain ⟨a1, a2, a3, a4⟩ := cLook_ok (r := cStep n o.1) (by simpa using h2)
        have ih := cRow_ok l (cLook (cStep n o.1)).1
        rw [a2] at ih ⊢
        simp only at ih ⊢
        refine ⟨(ih (sOk_good a4)).1, ?_⟩
        have := cRow_len l (cStep n o.1).1 a3
        omega
where
  cRow_len : ∀ (l : List Nd) (o : List Ty × Bool), o.1.length ≤ 40 → (cRow l o).1.1.length ≤ 40
  | [], o, h => by simp only [cRow]; exact h
  | n :: l, o, h => by
    simp only [cRow]
    split
    · simp [cBad]
    · split
      · simp [cBad]
      · rename_i h1 h2
        obtain ⟨a1, a2, a3, a4⟩ := cLook_ok (r := cStep n o.1) (by simpa using h2)
        rw [a2]
        exact cRow_len l _ a3
end Go.Abs

set_option linter.unusedVariables false
set_option linter.unusedSimpArgs false
namespace Go.Proofs
open Go.Abs

attribute [local irreducible] AK AOps QCalls

set_option maxHeartbeats 0 in
theorem arity_calls (t : Int) : QCalls Tryd.prog Tryd.X 23 [.int .i64 t] (.int .i64 (arity t)) := by
  refine QCalls.of Tryd.func23 rfl (fun args w => Tryd.call23 args w) (Nat.le_of_ble_eq_true rfl) [(0, .c (.int .i64 t))] rfl fun β hβ => ?_; have hf := Tryd.func23
  repeat' (first | refine st ?_ | (refine AK.condS rfl (fun h => ?_) (fun h => ?_) <;> first | (cases h; done) | rw [h] | skip) | refine uQ hf rfl rfl ?_)
  all_goals simp_all [arity]

end Go.Proofs

set_option linter.unusedVariables false
set_option linter.unusedSimpArgs false
namespace Go.Proofs
open Go.Abs
attribute [local irreducible] AK AOps QCalls

/-- The place of the first that has a property, -1 if there is none. -/
def idxOf {α : Type} (p : α → Bool) : List α → Int
  | [] => -1
  | x :: l => if p x then 0 else (match idxOf p l with
    | -1 => -1
    | n => n + 1)

theorem idxOf_cases {α : Type} (p : α → Bool) : ∀ (l : List α), (idxOf p l = -1 ∧ ∀ x ∈ l, p x = false) ∨ ∃ (i : Nat) (x : α), l[i]? = some x ∧ p x = true ∧ (∀ (j : Nat) y, j < i → l[j]? = some y → p y = false) ∧ idxOf p l = i
  | [] => .inl ⟨rfl, by simp⟩
  | x :: l => by
    by_cases hx : p x
    · right; exact ⟨0, x, by simp, hx, by simp, by simp [idxOf, hx]⟩
    · rcases idxOf_cases p l with ⟨h1, h2⟩ | ⟨i, y, h1, h2, h3, h4⟩
      · left; exact ⟨by simp [idxOf, hx, h1], by simpa [hx] using h2⟩
      · right
        refine ⟨i + 1, y, by simpa using h1, h2, ?_, ?_⟩
        · intro j z hj hz
          cases j with
          | zero => simp at hz; subst hz; simpa using hx
          | succ j => simp at hz; exact h3 j z (by omega) hz
        · have : idxOf p (x :: l) = (match idxOf p l with | -1 => -1 | n => n + 1) := by simp [idxOf, hx]
          rw [this, h4]
          split
          · omega
          · rfl

theorem idxOf_first {α : Type} (p : α → Bool) (l : List α) (i : Nat) (x : α) (hx : l[i]? = some x) (h : p x = true) (hb : ∀ (j : Nat) y, j < i → l[j]? = some y → p y = false) : idxOf p l = i := by
  rcases idxOf_cases p l with ⟨h1, h2⟩ | ⟨k, y, h1, h2, h3, h4⟩
  · have := h2 x (List.mem_of_getElem? hx); rw [h] at this; simp at this
  · rw [h4]
    rcases Nat.lt_trichotomy i k with hlt | rfl | hlt
    · have := h3 i x hlt hx; rw [h] at this; simp at this
    · rfl
    · have := hb k y hlt h1; rw [h2] at this; simp at this

theorem idxOf_none {α : Type} (p : α → Bool) (l : List α) (h : ∀ (j : Nat) y, l[j]? = some y → p y = false) : idxOf p l = -1 := by
  rcases idxOf_cases p l with ⟨h1, _⟩ | ⟨k, y, h1, h2, _⟩
  · exact h1
  · have := h k y h1; rw [h2] at this; simp at this

theorem idxOf_any {α : Type} (p : α → Bool) (l : List α) : decide (idxOf p l ≥ 0) = l.any p := by
  rcases idxOf_cases p l with ⟨h1, h2⟩ | ⟨k, y, h1, h2, h3, h4⟩
  · rw [h1]; symm; simp; intro x hx; simpa using h2 x hx
  · rw [h4]; symm; simp; exact ⟨y, List.mem_of_getElem? h1, h2⟩

set_option maxHeartbeats 1000000 in
theorem indexTy_calls (l : List Ty) (p : Ty → Bool) (f : FuncId) (caps : List CV) (hp : ∀ x ∈ l, QCalls Tryd.prog Tryd.X f (encTy x :: caps) (.bool (p x))) (hlen : l.length ≤ 1099511627776) :
    QCalls Tryd.prog Tryd.X 56 [.sl 2 (encTys l), .clo f caps] (.int .i64 (idxOf p l)) := by
  refine QCalls.of Tryd.func56 rfl (fun args w => Tryd.call56 args w) (Nat.le_of_ble_eq_true rfl) [(0, .c (.sl 2 (encTys l))), (1, .c (.clo f caps))] rfl fun β hβ => ?_; have hf := Tryd.func56
  refine AK.runP Tryd.hX Tryd.mixed 300 rfl ?_
  refine AK.loopE (α := Nat) (fun i => i ≤ l.length ∧ ∀ (j : Nat) x, j < i → l[j]? = some x → p x = false) (fun i => l.length - i)
    (fun i => [(8, .c (.int .i64 i)), (7, .c (.int .i64 (encTys l).length)), (0, .c (.sl 2 (encTys l))), (1, .c (.clo f caps))]) (fun _ => []) (fun _ => []) [] 0
    ⟨by omega, by intro j x h; omega⟩ ⟨.inl rfl, .inl rfl, .inl rfl, .inl rfl, trivial⟩ trivial trivial rfl rfl rfl ?_
  rintro i ⟨hi, hno⟩ ih
  repeat' (first | refine st ?_ | (refine AK.condS rfl (fun h => ?_) (fun h => ?_) <;> first | (cases h; done) | rw [h] | skip) | refine uQ hf rfl rfl ?_)
  · have hlt : i < l.length := by simpa [encTys_length] using h
    obtain ⟨⟨T, args⟩, hx⟩ : ∃ x, l[i]? = some x := ⟨l[i], by simp [hlt]⟩
    refine AOps.index Tryd.hX rfl rfl rfl rfl rfl rfl rfl rfl rfl rfl i rfl (by rw [encTys_get, hx]; rfl) rfl ?_
    repeat' (first | refine st ?_ | (refine AK.condS rfl (fun h => ?_) (fun h => ?_) <;> first | (cases h; done) | rw [h] | skip) | refine uQ hf rfl rfl ?_ | refine uC rfl (hp ⟨T, args⟩ (List.mem_of_getElem? hx)) ?_)
    · rw [idxOf_first p l i ⟨T, args⟩ hx h hno]
    · have hp' := h
      have ih' := ih (i + 1) ⟨by omega, fun j x hj hjx => by
        by_cases hji : j = i
        · subst hji; rw [hx] at hjx; simp at hjx; subst hjx; exact hp'
        · exact hno j x (by omega) hjx⟩ (by omega)
      refine AK.again ih' ⟨.inl ?_, .inl rfl, .inl rfl, .inl rfl, trivial⟩ trivial trivial rfl rfl rfl
      rw [w64 (by omega) (by omega)]; rfl
  · have hge : l.length ≤ i := by simpa [encTys_length] using h
    rw [idxOf_none p l fun j y hy => hno j y (by have := (List.getElem?_eq_some_iff.1 hy).1; omega) hy]

end Go.Proofs

set_option linter.unusedVariables false
set_option linter.unusedSimpArgs false
namespace Go.Proofs
open Go.Abs
attribute [local irreducible] AK AOps QCalls

theorem containsTy_calls (l : List Ty) (p : Ty → Bool) (f : FuncId) (caps : List CV) (hp : ∀ x ∈ l, QCalls Tryd.prog Tryd.X f (encTy x :: caps) (.bool (p x))) (hlen : l.length ≤ 1099511627776) :
    QCalls Tryd.prog Tryd.X 41 [.sl 2 (encTys l), .clo f caps] (.bool (l.any p)) := by
  refine QCalls.of Tryd.func41 rfl (fun args w => Tryd.call41 args w) (Nat.le_of_ble_eq_true rfl) [(0, .c (.sl 2 (encTys l))), (1, .c (.clo f caps))] rfl fun β hβ => ?_; have hf := Tryd.func41
  repeat' (first | refine st ?_ | refine uQ hf rfl rfl ?_ | refine uC rfl (indexTy_calls l p f caps hp hlen) ?_)
  rw [idxOf_any]

theorem talls_any (p : Int → Bool) : ∀ (l : List Ty), (!(l.any fun x => !tall p x)) = talls p l
  | [] => rfl
  | t :: l => by simp only [talls, ← talls_any p l, List.any_cons]; cases tall p t <;> simp

set_option maxHeartbeats 1000000 in
theorem all_calls (p : Int → Bool) (f : FuncId) (caps : List CV) (hp : ∀ n : Int, QCalls Tryd.prog Tryd.X f (.int .i64 n :: caps) (.bool (p n))) :
    ∀ (t : Ty), tySize t ≤ 1099511627776 → QCalls Tryd.prog Tryd.X 27 [encTy t, .clo f caps] (.bool (tall p t))
  | .mk T args, ht => by
    simp only [tySize] at ht
    have hl1 := tysSize_len args
    have hin : ∀ x ∈ args, QCalls Tryd.prog Tryd.X 42 (encTy x :: [.ip [.clo f caps]]) (.bool (!tall p x)) := by
      intro x hx
      have hrec := all_calls p f caps hp x (by have := tysSize_mem hx; omega)
      obtain ⟨T', args'⟩ := x
      refine QCalls.of Tryd.func42 rfl (fun args w => Tryd.call42 args w) (Nat.le_of_ble_eq_true rfl) [(0, .c (encTy (.mk T' args'))), (1, .c (.ip [.clo f caps]))] rfl fun β hβ => ?_; have hf := Tryd.func42
      repeat' (first | refine st ?_ | refine uQ hf rfl rfl ?_ | refine uC rfl hrec ?_)
      rfl
    refine QCalls.of Tryd.func27 rfl (fun args w => Tryd.call27 args w) (Nat.le_of_ble_eq_true rfl) [(0, .c (encTy (.mk T args))), (1, .c (.clo f caps))] rfl fun β hβ => ?_; have hf := Tryd.func27
    refine AK.seq ?_
    refine AK.region Tryd.mixed rfl ?_
    repeat' (first | refine so ?_ | ((first | refine AOps.splitT rfl rfl rfl asm (fun h => ?_) | refine AOps.splitF rfl rfl rfl asm (fun h => ?_) | refine AOps.split rfl rfl rfl (fun h => ?_) (fun h => ?_)) <;> (fail_if_success (cases h; done)) <;> rw [h]))
    refine AK.freeze 3 rfl rfl rfl rfl ?_
    repeat' (first | refine st ?_ | refine uQ hf rfl rfl ?_ | refine uC rfl (hp T) ?_ | refine uC rfl (containsTy_calls args (fun x => !tall p x) _ _ hin (by omega)) ?_ | ((first | refine AOps.splitT rfl rfl rfl asm (fun h => ?_) | refine AOps.splitF rfl rfl rfl asm (fun h => ?_) | refine AOps.split rfl rfl rfl (fun h => ?_) (fun h => ?_)) <;> (fail_if_success (cases h; done)) <;> rw [h]))
    · simp only [tall, ← talls_any, h, Bool.true_and, cond_true]
    · simp only [tall, h, Bool.false_and]
termination_by t => SizeOf.sizeOf t
decreasing_by
  have := List.sizeOf_lt_of_mem hx
  simp at this ⊢; omega

end Go.Proofs

set_option linter.unusedVariables false
set_option linter.unusedSimpArgs false
namespace Go.Proofs
open Go.Abs
attribute [local irreducible] AK AOps QCalls

theorem drop_at {α : Type} {l : List α} {i : Nat} {x : α} (h : l[i]? = some x) : l.drop i = x :: l.drop (i + 1) := by
  obtain ⟨h1, h2⟩ := List.getElem?_eq_some_iff.1 h
  rw [List.drop_eq_getElem_cons h1, h2]
theorem lt_of_get {α : Type} {l : List α} {i : Nat} {x : α} (h : l[i]? = some x) : i < l.length := (List.getElem?_eq_some_iff.1 h).1
theorem get_or {α : Type} (l : List α) (i : Nat) (hi : i ≤ l.length) : (∃ x, l[i]? = some x ∧ x ∈ l) ∨ i = l.length := by
  rcases Nat.lt_or_ge i l.length with h | h
  · exact .inl ⟨l[i], by simp [h], List.getElem_mem h⟩
  · right; omega
theorem tys_at {l : List Ty} {i : Nat} {x : Ty} (h : l[i]? = some x) : (encTys l)[i]? = some (encTy x) := by rw [encTys_get, h]; rfl
theorem dec_lt {a b : Int} (h : a < b) : decide (a < b) = true := decide_eq_true h
theorem dec_ge {a b : Int} (h : b ≤ a) : decide (a < b) = false := decide_eq_false (by omega)
theorem tys_lt {l : List Ty} {i : Nat} {x : Ty} (h : l[i]? = some x) : decide (((i : Nat) : Int) < (((encTys l).length : Nat) : Int)) = true := dec_lt (by have := lt_of_get h; rw [encTys_length]; omega)
theorem tys_end {l : List Ty} {i : Nat} (h : i = l.length) : decide (((i : Nat) : Int) < (((encTys l).length : Nat) : Int)) = false := dec_ge (by rw [encTys_length]; omega)

theorem compF_calls (n : Int) : QCalls Tryd.prog Tryd.X 28 [.int .i64 n] (.bool (compP n)) := by
  refine QCalls.of Tryd.func28 rfl (fun args w => Tryd.call28 args w) (Nat.le_of_ble_eq_true rfl) [(0, .c (.int .i64 n))] rfl fun β hβ => ?_; have hf := Tryd.func28
  repeat' (first | refine st ?_ | refine uQ hf rfl rfl ?_ | refine uC rfl (arity_calls n) ?_ | ((first | refine AOps.splitT rfl rfl rfl asm (fun h => ?_) | refine AOps.splitF rfl rfl rfl asm (fun h => ?_) | refine AOps.split rfl rfl rfl (fun h => ?_) (fun h => ?_)) <;> (fail_if_success (cases h; done)) <;> rw [h]))
  all_goals simp_all [compP]
theorem packF_calls (n : Int) : QCalls Tryd.prog Tryd.X 49 [.int .i64 n] (.bool (packP n)) := by
  refine QCalls.of Tryd.func49 rfl (fun args w => Tryd.call49 args w) (Nat.le_of_ble_eq_true rfl) [(0, .c (.int .i64 n))] rfl fun β hβ => ?_; have hf := Tryd.func49
  repeat' (first | refine st ?_ | refine uQ hf rfl rfl ?_ | ((first | refine AOps.splitT rfl rfl rfl asm (fun h => ?_) | refine AOps.splitF rfl rfl rfl asm (fun h => ?_) | refine AOps.split rfl rfl rfl (fun h => ?_) (fun h => ?_)) <;> (fail_if_success (cases h; done)) <;> rw [h]))
  all_goals simp_all [packP]
theorem Comparable_calls (t : Ty) (ht : tySize t ≤ 1099511627776) : QCalls Tryd.prog Tryd.X 24 [encTy t] (.bool (tComp t)) := by
  have hq := all_calls compP 28 [] compF_calls t ht
  obtain ⟨T, args⟩ := t
  refine QCalls.of Tryd.func24 rfl (fun args w => Tryd.call24 args w) (Nat.le_of_ble_eq_true rfl) [(0, .c (encTy (.mk T args)))] rfl fun β hβ => ?_; have hf := Tryd.func24
  repeat' (first | refine st ?_ | refine uQ hf rfl rfl ?_ | refine uC rfl hq ?_)
  rfl
theorem Packed_calls (t : Ty) (ht : tySize t ≤ 1099511627776) : QCalls Tryd.prog Tryd.X 33 [encTy t] (.bool (tPack t)) := by
  have hq := all_calls packP 49 [] packF_calls t ht
  obtain ⟨T, args⟩ := t
  refine QCalls.of Tryd.func33 rfl (fun args w => Tryd.call33 args w) (Nat.le_of_ble_eq_true rfl) [(0, .c (encTy (.mk T args)))] rfl fun β hβ => ?_; have hf := Tryd.func33
  repeat' (first | refine st ?_ | refine uQ hf rfl rfl ?_ | refine uC rfl hq ?_)
  rfl

theorem tNones_any (p : Int → Bool) : ∀ (l : List Ty), (!(l.any fun x => !tNone p x)) = tNones p l
  | [] => rfl
  | t :: l => by simp only [tNones, ← tNones_any p l, List.any_cons]; cases tNone p t <;> simp

set_option maxHeartbeats 1000000 in
theorem Copied_calls : ∀ (t : Ty), tySize t ≤ 1099511627776 → QCalls Tryd.prog Tryd.X 44 [encTy t] (.bool (tCopy t))
  | .mk T args, ht => by
    simp only [tySize] at ht
    have hl1 := tysSize_len args
    have hin : ∀ x ∈ args, QCalls Tryd.prog Tryd.X 57 (encTy x :: []) (.bool (!tCopy x)) := by
      intro x hx
      have hrec := Copied_calls x (by have := tysSize_mem hx; omega)
      obtain ⟨T', args'⟩ := x
      refine QCalls.of Tryd.func57 rfl (fun args w => Tryd.call57 args w) (Nat.le_of_ble_eq_true rfl) [(0, .c (encTy (.mk T' args')))] rfl fun β hβ => ?_; have hf := Tryd.func57
      repeat' (first | refine st ?_ | refine uQ hf rfl rfl ?_ | refine uC rfl hrec ?_)
      rfl
    have hq := containsTy_calls args (fun x => !tCopy x) 57 [] hin (by omega)
    refine QCalls.of Tryd.func44 rfl (fun args w => Tryd.call44 args w) (Nat.le_of_ble_eq_true rfl) [(0, .c (encTy (.mk T args)))] rfl fun β hβ => ?_; have hf := Tryd.func44
    repeat' (first | refine st ?_ | (refine AK.condS rfl (fun h => ?_) (fun h => ?_) <;> first | (cases h; done) | rw [h] | skip) | refine uQ hf rfl rfl ?_ | refine uC rfl hq ?_ | ((first | refine AOps.splitT rfl rfl rfl asm (fun h => ?_) | refine AOps.splitF rfl rfl rfl asm (fun h => ?_) | refine AOps.split rfl rfl rfl (fun h => ?_) (fun h => ?_)) <;> (fail_if_success (cases h; done)) <;> rw [h]))
    all_goals
      have ha := tNones_any copyP args
      simp only [tCopy] at *
      simp only [tNone, ← ha, copyP]
      simp_all
termination_by t => SizeOf.sizeOf t
decreasing_by
  have := List.sizeOf_lt_of_mem hx
  simp at this ⊢; omega

set_option maxHeartbeats 1000000 in
theorem Stored_calls : ∀ (t : Ty), tySize t ≤ 1099511627776 → QCalls Tryd.prog Tryd.X 55 [encTy t] (.bool (tStore t))
  | .mk T args, ht => by
    simp only [tySize] at ht
    have hl1 := tysSize_len args
    have hin : ∀ x ∈ args, QCalls Tryd.prog Tryd.X 70 (encTy x :: []) (.bool (!tStore x)) := by
      intro x hx
      have hrec := Stored_calls x (by have := tysSize_mem hx; omega)
      obtain ⟨T', args'⟩ := x
      refine QCalls.of Tryd.func70 rfl (fun args w => Tryd.call70 args w) (Nat.le_of_ble_eq_true rfl) [(0, .c (encTy (.mk T' args')))] rfl fun β hβ => ?_; have hf := Tryd.func70
      repeat' (first | refine st ?_ | refine uQ hf rfl rfl ?_ | refine uC rfl hrec ?_)
      rfl
    have hq := containsTy_calls args (fun x => !tStore x) 70 [] hin (by omega)
    refine QCalls.of Tryd.func55 rfl (fun args w => Tryd.call55 args w) (Nat.le_of_ble_eq_true rfl) [(0, .c (encTy (.mk T args)))] rfl fun β hβ => ?_; have hf := Tryd.func55
    repeat' (first | refine st ?_ | (refine AK.condS rfl (fun h => ?_) (fun h => ?_) <;> first | (cases h; done) | rw [h] | skip) | refine uQ hf rfl rfl ?_ | refine uC rfl hq ?_ | ((first | refine AOps.splitT rfl rfl rfl asm (fun h => ?_) | refine AOps.splitF rfl rfl rfl asm (fun h => ?_) | refine AOps.split rfl rfl rfl (fun h => ?_) (fun h => ?_)) <;> (fail_if_success (cases h; done)) <;> rw [h]))
    all_goals
      have ha := tNones_any storeP args
      simp only [tStore] at *
      simp only [tNone, ← ha, storeP]
      simp_all
termination_by t => SizeOf.sizeOf t
decreasing_by
  have := List.sizeOf_lt_of_mem hx
  simp at this ⊢; omega

end Go.Proofs

set_option linter.unusedVariables false
set_option linter.unusedSimpArgs false
namespace Go.Proofs
open Go.Abs
attribute [local irreducible] AK AOps QCalls


abbrev intRows (q : List Int) : List CV := q.map fun n => .int .i64 n

theorem ints_at {l : List Int} {i : Nat} {x : Int} (h : l[i]? = some x) : (intRows l)[i]? = some (.int .i64 x) := by simp [intRows, h]
theorem ints_lt {l : List Int} {i : Nat} {x : Int} (h : l[i]? = some x) : decide (((i : Nat) : Int) < (((intRows l).length : Nat) : Int)) = true := dec_lt (by have := lt_of_get h; simp [intRows]; omega)
theorem ints_end {l : List Int} {i : Nat} (h : i = l.length) : decide (((i : Nat) : Int) < (((intRows l).length : Nat) : Int)) = false := dec_ge (by simp [intRows]; omega)
theorem succ64 {i : Nat} (h : i < 1099511627776) : some (AV.c (CV.int .i64 (IntKind.i64.wrap ((i : Int) + 1)))) = some (AV.c (CV.int .i64 ((i + 1 : Nat) : Int))) := by
  rw [w64 (by omega) (by omega)]; rfl

end Go.Proofs

-- WIDE
-- OLDASM
set_option linter.unusedVariables false
set_option linter.unusedSimpArgs false
namespace Go.Proofs
open Go.Abs
theorem headComp_calls {args : List Ty} {x : Ty} (h : args[0]? = some x) : headComp args = tComp x := by
  cases args with
  | nil => simp at h
  | cons y l => simp at h; subst h; rfl
theorem kGood_eq (T : Int) (args : List Ty) (d n : Int) (hk : ¬ (d > 24 ∨ n + 1 > 300 ∨ arity T ≠ args.length)) :
    kGood (.mk T args) d n = ((kGoods args (d + 1) (n + 1)).1 && (if T = 13 ∨ T = 15 then headComp args else true), (kGoods args (d + 1) (n + 1)).2) := by
  simp only [kGood, if_neg hk]
  rcases kGoods args (d + 1) (n + 1) with ⟨b, m⟩
  cases b <;> rfl
theorem kGoods_nil (d m : Int) : kGoods [] d m = (true, m) := rfl
theorem kGood_no (T : Int) (args : List Ty) (d n : Int) (hk : d > 24 ∨ n + 1 > 300 ∨ arity T ≠ args.length) : kGood (.mk T args) d n = (false, n + 1) := by
  simp only [kGood, if_pos hk]
theorem kGoods_cons (t : Ty) (l : List Ty) (d n : Int) : kGoods (t :: l) d n = if (kGood t d n).1 then kGoods l d (kGood t d n).2 else (false, (kGood t d n).2) := by
  simp only [kGoods]
  rcases kGood t d n with ⟨b, m⟩
  cases b <;> rfl

attribute [local irreducible] AK AOps QCalls ECalls kGood kGoods headComp tComp
set_option maxHeartbeats 0 in
theorem good_calls : ∀ (t : Ty) (d n : Int), tySize t ≤ 8589934593 → 0 ≤ d → d ≤ 1099511627776 - tySize t → 0 ≤ n → n ≤ 300 →
    ECalls Tryd.prog Tryd.X 19 [.v (.c (encTy t)), .v (.c (.int .i64 d)), .box [.c (.int .i64 n)]] [.c (.bool (kGood t d n).1)] [(2, [.c (.int .i64 (kGood t d n).2)])]
  | .mk T args => by
    intro d n ht hd0 hd hn0 hn
    simp only [tySize] at ht hd
    have hl1 := tysSize_len args
    have hin : ∀ x ∈ args, ∀ m : Int, 0 ≤ m → m ≤ 300 → ECalls Tryd.prog Tryd.X 19 [.v (.c (encTy x)), .v (.c (.int .i64 (IntKind.i64.wrap (d + 1)))), .box [.c (.int .i64 m)]] [.c (.bool (kGood x (d + 1) m).1)] [(2, [.c (.int .i64 (kGood x (d + 1) m).2)])] := by
      intro x hx m h0 h1
      have := tysSize_mem hx
      rw [w64 (by omega) (by omega)]
      exact good_calls x (d + 1) m (by omega) (by omega) (by omega) h0 h1
    have e1 : IntKind.i64.wrap (n + 1) = n + 1 := w64 (by omega) (by omega)
    refine ECalls.ofL Tryd.func19 rfl (fun args w => Tryd.call19 args w) (Nat.le_of_ble_eq_true rfl) [(0, .c (encTy (.mk T args))), (1, .c (.int .i64 d)), (2, .ptr 1002000 0)] [(1002000, [.c (.int .i64 n)])] [] [1002000] rfl rfl fun β => ?_; have hf := Tryd.func19
    repeat' (first | refine sto ?_ | (refine AK.condS rfl (fun h => ?_) (fun h => ?_) <;> first | (cases h; done) | rw [h] | skip) | refine AK.retE Tryd.hX hf rfl rfl rfl rfl ?_ (by with_reducible rfl) | refine AK.retE Tryd.hX hf rfl rfl rfl rfl ?_ ?_ | refine AK.endE Tryd.hX hf rfl rfl rfl rfl ?_ (by with_reducible rfl) | refine AK.endE Tryd.hX hf rfl rfl rfl rfl ?_ ?_ | refine uC rfl (arity_calls T) ?_ | ((first | refine AOps.splitT rfl rfl rfl asmo (fun h => ?_) | refine AOps.splitF rfl rfl rfl asmo (fun h => ?_) | refine AOps.split rfl rfl rfl (fun h => ?_) (fun h => ?_)) <;> (fail_if_success (cases h; done)) <;> rw [h]))
    rotate_left 6
    · refine AK.loopE (α := Nat × Int) (fun z => z.1 ≤ args.length ∧ kGoods args (d + 1) (n + 1) = kGoods (args.drop z.1) (d + 1) z.2 ∧ 0 ≤ z.2 ∧ z.2 ≤ 300) (fun z => args.length - z.1)
        (fun z => [(34, .c (.int .i64 z.1)), (33, .c (.int .i64 (encTys args).length)), (32, .c (.sl 2 (encTys args))), (1, .c (.int .i64 d)), (2, .ptr 1002000 0), (3, .ptr 3 0)])
        (fun z => [(3, [.c (.int .i64 T), .c (.sl 2 (encTys args))]), (1002000, [.c (.int .i64 z.2)])]) (fun _ => []) [3, 1002000] (0, n + 1)
        ⟨by omega, rfl, by omega, ?_⟩ ⟨.inl rfl, .inl rfl, .inl rfl, .inl rfl, .inl rfl, .inl rfl, trivial⟩ ⟨rfl, congrArg (fun k => some [AV.c (CV.int .i64 k)]) e1, trivial⟩ trivial rfl rfl rfl ?_
      · simp_all
      rintro ⟨i, m⟩ ⟨hi, hinv, hm0, hm1⟩ ih
      simp only at hi hinv hm0 hm1
      have hk : ¬ (d > 24 ∨ n + 1 > 300 ∨ arity T ≠ args.length) := by
        rename_i g1 g2
        simp only [cond_false, e1, decide_eq_false_iff_not, bne_eq_false_iff_eq, encTys_length] at g1 g2 h
        rintro (hh | hh | hh)
        · omega
        · omega
        · exact hh h
      have hK := kGood_eq T args d n hk
      rcases get_or args i hi with ⟨x, hx, hmem⟩ | he
      · have hc := tys_lt hx
        have hq := hin x hmem m hm0 hm1
        have hle := kGood_le x (d + 1) m hm1
        rw [drop_at hx] at hinv
        rw [kGoods_cons] at hinv
        obtain ⟨U, us⟩ := x
        repeat' (first | refine sto ?_ | (refine AK.condS rfl (fun h => ?_) (fun h => ?_) <;> first | (cases h; done) | rw [h] | skip) | refine AK.retE Tryd.hX hf rfl rfl rfl rfl ?_ (by with_reducible rfl) | refine AK.retE Tryd.hX hf rfl rfl rfl rfl ?_ ?_ | refine AK.endE Tryd.hX hf rfl rfl rfl rfl ?_ (by with_reducible rfl) | refine AK.endE Tryd.hX hf rfl rfl rfl rfl ?_ ?_ | refine uI rfl (i) rfl (tys_at hx) rfl ?_ | refine AOps.calle kn rfl rfl (hq) rfl (by (repeat' (first | exact rfl | exact trivial | refine ⟨_, _, rfl, ?_, ?_⟩ | refine ⟨_, _, _, rfl, rfl, ?_, ?_⟩)); done) rfl rfl rfl rfl rfl rfl rfl rfl rfl rfl rfl rfl rfl rfl ?_ | ((first | refine AOps.splitT rfl rfl rfl asmo (fun h => ?_) | refine AOps.splitF rfl rfl rfl asmo (fun h => ?_) | refine AOps.split rfl rfl rfl (fun h => ?_) (fun h => ?_)) <;> (fail_if_success (cases h; done)) <;> rw [h]))
        · have hf : (kGood (.mk U us) (d + 1) m).1 = false := by simpa using h
          rw [hf] at hinv
          rw [hK, hinv]; rfl
        · have hf : (kGood (.mk U us) (d + 1) m).1 = false := by simpa using h
          rw [hf] at hinv
          rw [hK, hinv]; rfl
        · have hf : (kGood (.mk U us) (d + 1) m).1 = true := by simpa using h
          rw [hf] at hinv
          refine AK.again (ih (i + 1, (kGood (.mk U us) (d + 1) m).2) ⟨lt_of_get hx, hinv, by omega, hle.2.2 hf⟩ (by have := lt_of_get hx; show args.length - (i + 1) < args.length - i; omega))
            ⟨.inl (succ64 (by have := lt_of_get hx; omega)), .inl rfl, .inl rfl, .inl rfl, .inl rfl, .inl rfl, trivial⟩ ⟨rfl, rfl, trivial⟩ trivial rfl rfl rfl
      · have hc := tys_end he
        have hG : kGoods args (d + 1) (n + 1) = (true, m) := by rw [hinv, he, List.drop_length, kGoods_nil]
        rw [hG] at hK
        by_cases hmt : T = 13 ∨ T = 15
        · obtain ⟨x0, hx0⟩ : ∃ x, args[0]? = some x := by
            have h1 : arity T ≥ 1 := by rcases hmt with rfl | rfl <;> decide
            have h2 : 0 < args.length := by simp only [not_or, ne_eq, Decidable.not_not] at hk; omega
            exact ⟨args[0], by simp [h2]⟩
          have hcq := Comparable_calls x0 (by have := tysSize_mem (List.mem_of_getElem? hx0); omega)
          rw [if_pos hmt, headComp_calls hx0] at hK
          clear ih hin
          obtain ⟨U, us⟩ := x0
          repeat' (first | refine sto ?_ | (refine AK.condS rfl (fun h => ?_) (fun h => ?_) <;> first | (cases h; done) | rw [h] | skip) | refine AK.retE Tryd.hX hf rfl rfl rfl rfl ?_ (by with_reducible rfl) | refine AK.retE Tryd.hX hf rfl rfl rfl rfl ?_ ?_ | refine AK.endE Tryd.hX hf rfl rfl rfl rfl ?_ (by with_reducible rfl) | refine AK.endE Tryd.hX hf rfl rfl rfl rfl ?_ ?_ | refine uI rfl (0) rfl (tys_at hx0) rfl ?_ | refine uC rfl hcq ?_ | ((first | refine AOps.splitT rfl rfl rfl asmo (fun h => ?_) | refine AOps.splitF rfl rfl rfl asmo (fun h => ?_) | refine AOps.split rfl rfl rfl (fun h => ?_) (fun h => ?_)) <;> (fail_if_success (cases h; done)) <;> rw [h]))
          all_goals first
            | (show (_ : List LV) = _; rw [hK]; first | rfl | (simp; done) | (exfalso; simp_all; done))
            | (show (_ : List (Nat × List LV)) = _; rw [hK]; done)
            | (show (_ : List (Nat × List LV)) = _; rw [hK]; rfl)
            | (exfalso; clear hf hK hinv; simp_all; done)
        · rw [if_neg hmt] at hK
          clear ih hin
          repeat' (first | refine sto ?_ | (refine AK.condS rfl (fun h => ?_) (fun h => ?_) <;> first | (cases h; done) | rw [h] | skip) | refine AK.retE Tryd.hX hf rfl rfl rfl rfl ?_ (by with_reducible rfl) | refine AK.retE Tryd.hX hf rfl rfl rfl rfl ?_ ?_ | refine AK.endE Tryd.hX hf rfl rfl rfl rfl ?_ (by with_reducible rfl) | refine AK.endE Tryd.hX hf rfl rfl rfl rfl ?_ ?_ | ((first | refine AOps.splitT rfl rfl rfl asmo (fun h => ?_) | refine AOps.splitF rfl rfl rfl asmo (fun h => ?_) | refine AOps.split rfl rfl rfl (fun h => ?_) (fun h => ?_)) <;> (fail_if_success (cases h; done)) <;> rw [h]))
          all_goals first
            | (show (_ : List LV) = _; rw [hK]; first | rfl | (simp; done) | (exfalso; simp_all; done))
            | (show (_ : List (Nat × List LV)) = _; rw [hK]; done)
            | (show (_ : List (Nat × List LV)) = _; rw [hK]; rfl)
            | (exfalso; clear hf hK hinv; simp_all; done)
    all_goals
      have hno : d > 24 ∨ n + 1 > 300 ∨ arity T ≠ args.length := by
        clear hin hf
        first
        | (left; simp_all; done)
        | (right; left; simp_all; done)
        | (right; right; simp_all [encTys_length]; done)
      first
      | (show (_ : List LV) = _; rw [kGood_no T args d n hno])
      | (show (_ : List (Nat × List LV)) = _; rw [kGood_no T args d n hno, e1])
termination_by t => SizeOf.sizeOf t
decreasing_by
  have := List.sizeOf_lt_of_mem hx
  simp at this ⊢; omega
end Go.Proofs

-- WIDE
-- OLDASM
set_option linter.unusedVariables false
set_option linter.unusedSimpArgs false
namespace Go.Proofs
open Go.Abs
theorem kParse_no (kind nn p : Int) (s : List UInt8) (args : List Nd) (d left : Int) (h : left - 1 < 0 ∨ d > 24 ∨ kind ≠ 2 ∨ nn ≠ 0 ∨ s ≠ [] ∨ arity p ≠ args.length) : kParse (.mk kind nn p s args) d left = (none, left - 1) := by
  simp only [kParse, if_pos h]
theorem kParse_eq (kind nn p : Int) (s : List UInt8) (args : List Nd) (d left : Int) (h : ¬ (left - 1 < 0 ∨ d > 24 ∨ kind ≠ 2 ∨ nn ≠ 0 ∨ s ≠ [] ∨ arity p ≠ args.length)) :
    kParse (.mk kind nn p s args) d left = ((kParses args (d + 1) (left - 1)).1.map (.mk p), (kParses args (d + 1) (left - 1)).2) := by
  simp only [kParse, if_neg h]
  rcases kParses args (d + 1) (left - 1) with ⟨b, m⟩
  cases b <;> rfl
theorem kParses_nil (d m : Int) : kParses [] d m = (some [], m) := rfl
theorem kParses_cons (t : Nd) (l : List Nd) (d n : Int) : kParses (t :: l) d n = match (kParse t d n).1 with
    | some y => ((kParses l d (kParse t d n).2).1.map (y :: ·), (kParses l d (kParse t d n).2).2)
    | none => (none, (kParse t d n).2) := by
  simp only [kParses]
  rcases kParse t d n with ⟨b, m⟩
  cases b with
  | none => rfl
  | some y =>
    simp only
    rcases kParses l d m with ⟨r, m'⟩
    cases r <;> rfl
theorem nds_at {l : List Nd} {i : Nat} {x : Nd} (h : l[i]? = some x) : (encNds l)[i]? = some (encNd x) := by rw [encNds_get, h]; rfl
theorem nds_lt {l : List Nd} {i : Nat} {x : Nd} (h : l[i]? = some x) : decide (((i : Nat) : Int) < (((encNds l).length : Nat) : Int)) = true := dec_lt (by have := lt_of_get h; rw [encNds_length]; omega)
theorem nds_end {l : List Nd} {i : Nat} (h : i = l.length) : decide (((i : Nat) : Int) < (((encNds l).length : Nat) : Int)) = false := dec_ge (by rw [encNds_length]; omega)
theorem encTys_append : ∀ (a : List Ty) (b : List Ty), encTys (a ++ b) = encTys a ++ encTys b
  | [], b => rfl
  | t :: a, b => by simp [encTys, encTys_append a b]
theorem encNds_append : ∀ (a : List Nd) (b : List Nd), encNds (a ++ b) = encNds a ++ encNds b
  | [], b => rfl
  | t :: a, b => by simp [encNds, encNds_append a b]

theorem succ64' {i : Nat} (h : i < 1099511627776) : AV.c (CV.int .i64 (IntKind.i64.wrap ((i : Int) + 1))) = AV.c (CV.int .i64 ((i + 1 : Nat) : Int)) := by
  rw [w64 (by omega) (by omega)]; rfl

/-- The type that is handed back. -/
def optTy : Option Ty → Ty
  | some t => t
  | none => .mk 0 []

attribute [local irreducible] AK AOps QCalls ECalls kGood kGoods headComp tComp kParse kParses

theorem Good_calls (t : Ty) (ht : tySize t ≤ 8589934593) : QCalls Tryd.prog Tryd.X 11 [encTy t] (.bool (tGood t)) := by
  have hq := good_calls t 1 0 ht (by omega) (by omega) (by omega) (by omega)
  obtain ⟨T, args⟩ := t
  refine QCalls.of Tryd.func11 rfl (fun args w => Tryd.call11 args w) (Nat.le_of_ble_eq_true rfl) [(0, .c (encTy (.mk T args)))] rfl fun β hβ => ?_; have hf := Tryd.func11
  repeat' (first | refine sto ?_ | refine uQ hf rfl rfl ?_ | refine AOps.calle kn rfl rfl (hq) rfl (by (repeat' (first | exact rfl | exact trivial | refine ⟨_, _, rfl, ?_, ?_⟩ | refine ⟨_, _, _, rfl, rfl, ?_, ?_⟩)); done) rfl rfl rfl rfl rfl rfl rfl rfl rfl rfl rfl rfl rfl rfl ?_)
  rfl

set_option maxHeartbeats 0 in
theorem parse_calls : ∀ (n : Nd) (d left : Int), ndSize n ≤ 8589934593 → 0 ≤ d → d ≤ 1099511627776 - ndSize n → 0 ≤ left → left ≤ 300 →
    ECalls Tryd.prog Tryd.X 43 [.v (.c (encNd n)), .v (.c (.int .i64 d)), .box [.c (.int .i64 left)]] [.c (encTy (optTy (kParse n d left).1)), .c (.bool (kParse n d left).1.isSome)] [(2, [.c (.int .i64 (kParse n d left).2)])]
  | .mk kind nn p s args => by
    intro d left ht hd0 hd hn0 hn
    simp only [ndSize] at ht hd
    have hl1 := ndsSize_len args
    have hin : ∀ x ∈ args, ∀ m : Int, 0 ≤ m → m ≤ 300 → ECalls Tryd.prog Tryd.X 43 [.v (.c (encNd x)), .v (.c (.int .i64 (IntKind.i64.wrap (d + 1)))), .box [.c (.int .i64 m)]] [.c (encTy (optTy (kParse x (d + 1) m).1)), .c (.bool (kParse x (d + 1) m).1.isSome)] [(2, [.c (.int .i64 (kParse x (d + 1) m).2)])] := by
      intro x hx m h0 h1
      have := ndsSize_mem hx
      rw [w64 (by omega) (by omega)]
      exact parse_calls x (d + 1) m (by omega) (by omega) (by omega) h0 h1
    have e1 : IntKind.i64.wrap (left - 1) = left - 1 := w64 (by omega) (by omega)
    refine ECalls.ofL Tryd.func43 rfl (fun args w => Tryd.call43 args w) (Nat.le_of_ble_eq_true rfl) [(0, .c (encNd (.mk kind nn p s args))), (1, .c (.int .i64 d)), (2, .ptr 1002000 0)] [(1002000, [.c (.int .i64 left)])] [] [1002000] rfl rfl fun β => ?_; have hf := Tryd.func43
    repeat' (first | refine sto ?_ | (refine AK.condS rfl (fun h => ?_) (fun h => ?_) <;> first | (cases h; done) | rw [h] | skip) | refine AK.retE Tryd.hX hf rfl rfl rfl rfl ?_ (by with_reducible rfl) | refine AK.retE Tryd.hX hf rfl rfl rfl rfl ?_ ?_ | refine AK.endE Tryd.hX hf rfl rfl rfl rfl ?_ (by with_reducible rfl) | refine AK.endE Tryd.hX hf rfl rfl rfl rfl ?_ ?_ | refine uC rfl (arity_calls p) ?_ | (refine uA rfl ?_ ?_ <;> (try (show (_ : Nat) * _ ≤ _; dsimp only))) | ((first | refine AOps.splitT rfl rfl rfl asmo (fun h => ?_) | refine AOps.splitF rfl rfl rfl asmo (fun h => ?_) | refine AOps.split rfl rfl rfl (fun h => ?_) (fun h => ?_)) <;> (fail_if_success (cases h; done)) <;> rw [h]))
    rotate_left 12
    · refine AK.ren [(6, 6), (8, 8), (1002000, 1002000)] [(8000, (0, none))] (env' := [(57, .c (.int .i64 (0 : Nat))), (56, .c (.int .i64 (encNds args).length)), (55, .c (.sl 5 (encNds args))), (1, .c (.int .i64 d)), (2, .ptr 1002000 0), (6, .ptr 6 0), (8, .ptr 8 0)])
        (bs' := [(6, [.c (.int .i64 0), .own .exact 2 []]), (8, [.c (.int .i64 p), .own (.tok 8000 0) 2 []]), (1002000, [.c (.int .i64 (left - 1))])]) (ts' := [(8000, 0)]) (us' := [6, 8, 1002000, 8000])
        ⟨⟨_, rfl, .inl rfl⟩, ⟨_, rfl, .inl rfl⟩, ⟨_, rfl, .inl rfl⟩, ⟨_, rfl, .inl rfl⟩, ⟨_, rfl, ⟨_, rfl, rfl⟩⟩, ⟨_, rfl, ⟨_, rfl, rfl⟩⟩, ⟨_, rfl, ⟨_, rfl, rfl⟩⟩, trivial⟩
        ⟨⟨_, _, rfl, rfl, ⟨_, _, rfl, .inl rfl, ⟨_, _, rfl, rfl, rfl⟩⟩⟩, ⟨_, _, rfl, rfl, ⟨_, _, rfl, .inl rfl, ⟨_, _, rfl, ⟨_, rfl, .inl ⟨rfl, _, rfl, .inr rfl⟩⟩, rfl⟩⟩⟩, ⟨_, _, rfl, rfl, ⟨_, _, rfl, .inl (congrArg (fun k => AV.c (.int .i64 k)) e1), rfl⟩⟩, trivial⟩ rfl ?_
      refine AK.loopE (α := Nat × List Ty × Int) (fun z => z.1 ≤ args.length ∧ z.1 = z.2.1.length ∧ kParses args (d + 1) (left - 1) = ((kParses (args.drop z.1) (d + 1) z.2.2).1.map (z.2.1 ++ ·), (kParses (args.drop z.1) (d + 1) z.2.2).2) ∧ 0 ≤ z.2.2 ∧ z.2.2 ≤ 300) (fun z => args.length - z.1)
        (fun z => [(57, .c (.int .i64 z.1)), (56, .c (.int .i64 (encNds args).length)), (55, .c (.sl 5 (encNds args))), (1, .c (.int .i64 d)), (2, .ptr 1002000 0), (6, .ptr 6 0), (8, .ptr 8 0)])
        (fun z => [(6, [.c (.int .i64 0), .own .exact 2 []]), (8, [.c (.int .i64 p), .own (.tok 8000 0) 2 (encTys z.2.1)]), (1002000, [.c (.int .i64 z.2.2)])]) (fun _ => [(8000, 0)]) [6, 8, 1002000, 8000] (0, [], left - 1)
        ⟨by omega, rfl, by simp, ?_, by show left - 1 ≤ 300; omega⟩ ⟨.inl rfl, .inl rfl, .inl rfl, .inl rfl, .inl rfl, .inl rfl, .inl rfl, trivial⟩ ⟨rfl, rfl, rfl, trivial⟩ ⟨rfl, trivial⟩ rfl rfl rfl ?_
      · have : ¬ (left - 1 < 0) := by simp_all
        show 0 ≤ left - 1
        omega
      rintro ⟨i, acc, m⟩ ⟨hi, hia, hinv, hm0, hm1⟩ ih
      simp only at hi hia hinv hm0 hm1
      have hk : ¬ (left - 1 < 0 ∨ d > 24 ∨ kind ≠ 2 ∨ nn ≠ 0 ∨ s ≠ [] ∨ arity p ≠ args.length) := by
        clear ih hin hf
        simp_all [encNds_length]
      have hK := kParse_eq kind nn p s args d left hk
      rcases get_or args i hi with ⟨x, hx, hmem⟩ | he
      · have hc := nds_lt hx
        have hq := hin x hmem m hm0 hm1
        have hle := kParse_le x (d + 1) m hm0
        rw [drop_at hx, kParses_cons] at hinv
        rcases hr : kParse x (d + 1) m with ⟨b, m'⟩
        rw [hr] at hq hle hinv
        obtain ⟨xk, xn, xp, xs, xa⟩ := x
        cases b with
        | none =>
          simp only [optTy, Option.isSome_none] at hq hinv
          repeat' (first | refine sto ?_ | (refine AK.condS rfl (fun h => ?_) (fun h => ?_) <;> first | (cases h; done) | rw [h] | skip) | refine AK.retE Tryd.hX hf rfl rfl rfl rfl ?_ (by with_reducible rfl) | refine AK.retE Tryd.hX hf rfl rfl rfl rfl ?_ ?_ | refine AK.endE Tryd.hX hf rfl rfl rfl rfl ?_ (by with_reducible rfl) | refine AK.endE Tryd.hX hf rfl rfl rfl rfl ?_ ?_ | refine uI rfl (i) rfl (nds_at hx) rfl ?_ | refine AOps.calle kn rfl rfl (hq) rfl (by (repeat' (first | exact rfl | exact trivial | refine ⟨_, _, rfl, ?_, ?_⟩ | refine ⟨_, _, _, rfl, rfl, ?_, ?_⟩)); done) rfl rfl rfl rfl rfl rfl rfl rfl rfl rfl rfl rfl rfl rfl ?_ | (refine uA rfl ?_ ?_ <;> (try (show (_ : Nat) * _ ≤ _; dsimp only))) | ((first | refine AOps.splitT rfl rfl rfl asmo (fun h => ?_) | refine AOps.splitF rfl rfl rfl asmo (fun h => ?_) | refine AOps.split rfl rfl rfl (fun h => ?_) (fun h => ?_)) <;> (fail_if_success (cases h; done)) <;> rw [h]))
          · rw [hK, hinv]; rfl
          · rw [hK, hinv]
        | some y =>
          obtain ⟨U, us⟩ := y
          simp only [optTy, Option.isSome_some] at hq hinv
          repeat' (first | refine sto ?_ | (refine AK.condS rfl (fun h => ?_) (fun h => ?_) <;> first | (cases h; done) | rw [h] | skip) | refine AK.retE Tryd.hX hf rfl rfl rfl rfl ?_ (by with_reducible rfl) | refine AK.retE Tryd.hX hf rfl rfl rfl rfl ?_ ?_ | refine AK.endE Tryd.hX hf rfl rfl rfl rfl ?_ (by with_reducible rfl) | refine AK.endE Tryd.hX hf rfl rfl rfl rfl ?_ ?_ | refine uI rfl (i) rfl (nds_at hx) rfl ?_ | refine AOps.calle kn rfl rfl (hq) rfl (by (repeat' (first | exact rfl | exact trivial | refine ⟨_, _, rfl, ?_, ?_⟩ | refine ⟨_, _, _, rfl, rfl, ?_, ?_⟩)); done) rfl rfl rfl rfl rfl rfl rfl rfl rfl rfl rfl rfl rfl rfl ?_ | (refine uA rfl ?_ ?_ <;> (try (show (_ : Nat) * _ ≤ _; dsimp only))) | ((first | refine AOps.splitT rfl rfl rfl asmo (fun h => ?_) | refine AOps.splitF rfl rfl rfl asmo (fun h => ?_) | refine AOps.split rfl rfl rfl (fun h => ?_) (fun h => ?_)) <;> (fail_if_success (cases h; done)) <;> rw [h]))
          · have h1 := encTys_length acc
            have h2 := lt_of_get hx
            simp only [List.length_cons, List.length_nil]
            omega
          · have hap : encTys acc ++ [encTy (.mk U us)] = encTys (acc ++ [Ty.mk U us]) := (encTys_append acc [.mk U us]).symm
            refine AK.ren [(6, 6), (8, 8), (1002000, 1002000)] [(8000, (0, some 8000))] (env' := [(57, .c (.int .i64 ((i + 1 : Nat) : Int))), (56, .c (.int .i64 (encNds args).length)), (55, .c (.sl 5 (encNds args))), (1, .c (.int .i64 d)), (2, .ptr 1002000 0), (6, .ptr 6 0), (8, .ptr 8 0)])
              (bs' := [(6, [.c (.int .i64 0), .own .exact 2 []]), (8, [.c (.int .i64 p), .own (.tok 8000 0) 2 (encTys (acc ++ [Ty.mk U us]))]), (1002000, [.c (.int .i64 m')])]) (ts' := [(8000, 0)]) (us' := [6, 8, 1002000, 8000])
              ⟨⟨_, rfl, .inl (succ64' (i := i) (by have := lt_of_get hx; omega))⟩, ⟨_, rfl, .inl rfl⟩, ⟨_, rfl, .inl rfl⟩, ⟨_, rfl, .inl rfl⟩, ⟨_, rfl, ⟨_, rfl, rfl⟩⟩, ⟨_, rfl, ⟨_, rfl, rfl⟩⟩, ⟨_, rfl, ⟨_, rfl, rfl⟩⟩, trivial⟩
              ⟨⟨_, _, rfl, rfl, ⟨_, _, rfl, .inl rfl, ⟨_, _, rfl, rfl, rfl⟩⟩⟩, ⟨_, _, rfl, rfl, ⟨_, _, rfl, .inl rfl, ⟨_, _, rfl, ⟨_, rfl, .inr ⟨_, _, rfl, rfl, congrArg (AV.own (.tok 8000 1) 2) hap⟩⟩, rfl⟩⟩⟩, ⟨_, _, rfl, rfl, ⟨_, _, rfl, .inl rfl, rfl⟩⟩, trivial⟩ rfl ?_
            refine ih (i + 1, acc ++ [Ty.mk U us], m') ⟨lt_of_get hx, by simp [hia], ?_, ?_, ?_⟩ (by have := lt_of_get hx; show args.length - (i + 1) < args.length - i; omega)
            · show kParses args (d + 1) (left - 1) = _
              rw [hinv]
              rcases kParses (List.drop (i + 1) args) (d + 1) m' with ⟨r, m2⟩
              cases r <;> simp
            · exact hle.2.2 (by simp)
            · have := hle.1; show m' ≤ 300; simp only at this; omega
      · have hc := nds_end he
        have hG : kParses args (d + 1) (left - 1) = (some acc, m) := by rw [hinv, he, List.drop_length, kParses_nil]; simp
        rw [hG] at hK
        clear ih hin
        repeat' (first | refine sto ?_ | (refine AK.condS rfl (fun h => ?_) (fun h => ?_) <;> first | (cases h; done) | rw [h] | skip) | refine AK.retE Tryd.hX hf rfl rfl rfl rfl ?_ (by with_reducible rfl) | refine AK.retE Tryd.hX hf rfl rfl rfl rfl ?_ ?_ | refine AK.endE Tryd.hX hf rfl rfl rfl rfl ?_ (by with_reducible rfl) | refine AK.endE Tryd.hX hf rfl rfl rfl rfl ?_ ?_ | (refine uA rfl ?_ ?_ <;> (try (show (_ : Nat) * _ ≤ _; dsimp only))) | ((first | refine AOps.splitT rfl rfl rfl asmo (fun h => ?_) | refine AOps.splitF rfl rfl rfl asmo (fun h => ?_) | refine AOps.split rfl rfl rfl (fun h => ?_) (fun h => ?_)) <;> (fail_if_success (cases h; done)) <;> rw [h]))
        · rw [hK]; rfl
        · rw [hK]
    all_goals
      have hno : left - 1 < 0 ∨ d > 24 ∨ kind ≠ 2 ∨ nn ≠ 0 ∨ s ≠ [] ∨ arity p ≠ args.length := by
        clear hin hf
        first
        | (left; simp_all; done)
        | (right; left; simp_all; done)
        | (right; right; left; simp_all; done)
        | (right; right; right; left; simp_all; done)
        | (right; right; right; right; left; simp_all; done)
        | (right; right; right; right; right; simp_all [encNds_length]; done)
      first
      | (show (_ : List LV) = _; rw [kParse_no kind nn p s args d left hno]; rfl)
      | (show (_ : List (Nat × List LV)) = _; rw [kParse_no kind nn p s args d left hno, e1])
termination_by t => SizeOf.sizeOf t
decreasing_by
  have := List.sizeOf_lt_of_mem hx
  simp at this ⊢; omega
end Go.Proofs

-- WIDE
-- OLDASM
set_option linter.unusedVariables false
set_option linter.unusedSimpArgs false
namespace Go.Proofs
open Go.Abs

mutual
theorem kParse_size : ∀ (n : Nd) (d left : Int) (t : Ty) (m : Int), kParse n d left = (some t, m) → tySize t ≤ ndSize n
  | .mk kind nn p s args, d, left, t, m, h => by
    simp only [kParse] at h
    split at h
    · simp at h
    · rcases hk : kParses args (d + 1) (left - 1) with ⟨b, m'⟩
      rw [hk] at h
      cases b with
      | none => simp at h
      | some l =>
        simp at h
        have := kParses_size args (d + 1) (left - 1) l m' hk
        rw [← h.1]; simp only [tySize, ndSize]; omega
theorem kParses_size : ∀ (l : List Nd) (d left : Int) (r : List Ty) (m : Int), kParses l d left = (some r, m) → tysSize r ≤ ndsSize l
  | [], d, left, r, m, h => by simp [kParses] at h; rw [h.1]; simp [tysSize]
  | x :: l, d, left, r, m, h => by
    simp only [kParses] at h
    rcases hk : kParse x d left with ⟨b, m'⟩
    rw [hk] at h
    cases b with
    | none => simp at h
    | some t =>
      simp only at h
      rcases hk2 : kParses l d m' with ⟨b2, m2⟩
      rw [hk2] at h
      cases b2 with
      | none => simp at h
      | some q =>
        simp at h
        have h1 := kParse_size x d left t m' hk
        have h2 := kParses_size l d m' q m2 hk2
        rw [← h.1]; simp only [tysSize, ndsSize]; omega
end

attribute [local irreducible] AK AOps QCalls ECalls kGood kGoods headComp tComp kParse kParses tGood

set_option maxHeartbeats 0 in
theorem Parse_calls (n : Nd) (hn : ndSize n ≤ 8589934593) : QCalls Tryd.prog Tryd.X 30 [encNd n] (.tup [encTy (tParse n).1, .int .i64 (tParse n).2]) := by
  have hq := parse_calls n 1 300 hn (by omega) (by omega) (by omega) (by omega)
  rcases hr : kParse n 1 300 with ⟨b, m⟩
  rw [hr] at hq
  have hsz := kParse_size n 1 300
  rw [hr] at hsz
  cases b with
  | none =>
    have hP : tParse n = (.mk 0 [], 1) := by simp only [tParse, hr]
    rw [hP]
    simp only [optTy, Option.isSome_none] at hq
    obtain ⟨k, a, p, s, l⟩ := n
    refine QCalls.of Tryd.func30 rfl (fun args w => Tryd.call30 args w) (Nat.le_of_ble_eq_true rfl) [(0, .c (encNd (.mk k a p s l)))] rfl fun β hβ => ?_; have hf := Tryd.func30
    repeat' (first | refine sto ?_ | (refine AK.condS rfl (fun h => ?_) (fun h => ?_) <;> first | (cases h; done) | rw [h] | skip) | refine uQ hf rfl rfl ?_ | refine AOps.calle kn rfl rfl (hq) rfl (by (repeat' (first | exact rfl | exact trivial | refine ⟨_, _, rfl, ?_, ?_⟩ | refine ⟨_, _, _, rfl, rfl, ?_, ?_⟩)); done) rfl rfl rfl rfl rfl rfl rfl rfl rfl rfl rfl rfl rfl rfl ?_ | ((first | refine AOps.splitT rfl rfl rfl asmo (fun h => ?_) | refine AOps.splitF rfl rfl rfl asmo (fun h => ?_) | refine AOps.split rfl rfl rfl (fun h => ?_) (fun h => ?_)) <;> (fail_if_success (cases h; done)) <;> rw [h]))
    rfl
  | some t =>
    have hg := Good_calls t (Nat.le_trans (hsz t m rfl) hn)
    have hP : tParse n = if tGood t then (t, 0) else (.mk 0 [], 1) := by simp only [tParse, hr]
    rw [hP]
    obtain ⟨U, us⟩ := t
    simp only [optTy, Option.isSome_some] at hq
    obtain ⟨k, a, p, s, l⟩ := n
    cases hb : tGood (.mk U us)
    all_goals
      rw [hb] at hg
      refine QCalls.of Tryd.func30 rfl (fun args w => Tryd.call30 args w) (Nat.le_of_ble_eq_true rfl) [(0, .c (encNd (.mk k a p s l)))] rfl fun β hβ => ?_; have hf := Tryd.func30
      repeat' (first | refine sto ?_ | (refine AK.condS rfl (fun h => ?_) (fun h => ?_) <;> first | (cases h; done) | rw [h] | skip) | refine uQ hf rfl rfl ?_ | refine AOps.calle kn rfl rfl (hq) rfl (by (repeat' (first | exact rfl | exact trivial | refine ⟨_, _, rfl, ?_, ?_⟩ | refine ⟨_, _, _, rfl, rfl, ?_, ?_⟩)); done) rfl rfl rfl rfl rfl rfl rfl rfl rfl rfl rfl rfl rfl rfl ?_ | refine uC rfl hg ?_ | ((first | refine AOps.splitT rfl rfl rfl asmo (fun h => ?_) | refine AOps.splitF rfl rfl rfl asmo (fun h => ?_) | refine AOps.split rfl rfl rfl (fun h => ?_) (fun h => ?_)) <;> (fail_if_success (cases h; done)) <;> rw [h]))
      rfl

end Go.Proofs

-- WIDE
-- OLDASM
set_option linter.unusedVariables false
set_option linter.unusedSimpArgs false
namespace Go.Proofs
open Go.Abs
attribute [local irreducible] AK AOps QCalls ECalls

/-- Two rows are alike, one by one. -/
def eqBy {α : Type} (q : α → α → Bool) : List α → List α → Bool
  | [], [] => true
  | x :: l, y :: r => q x y && eqBy q l r
  | _, _ => false
theorem eqBy_len {α : Type} (q : α → α → Bool) : ∀ (l r : List α), l.length ≠ r.length → eqBy q l r = false
  | [], [], h => by simp at h
  | [], _ :: _, _ => rfl
  | _ :: _, [], _ => rfl
  | x :: l, y :: r, h => by simp [eqBy, eqBy_len q l r (by simpa using h)]
theorem eqBy_tys : ∀ (l r : List Ty), eqBy tySame l r = tysSame l r
  | [], [] => rfl
  | [], _ :: _ => rfl
  | _ :: _, [] => rfl
  | x :: l, y :: r => by simp [eqBy, tysSame, eqBy_tys l r]
theorem eqBy_end {α : Type} (q : α → α → Bool) {l r : List α} {i : Nat} (h : l.length = r.length) (hi : i = l.length) : eqBy q (l.drop i) (r.drop i) = true := by
  subst hi; rw [List.drop_length, h, List.drop_length]; rfl

set_option maxHeartbeats 0 in
theorem eqFuncTy_calls (l r : List Ty) (q : Ty → Ty → Bool) (f : FuncId) (caps : List CV) (hp : ∀ x ∈ l, ∀ y ∈ r, QCalls Tryd.prog Tryd.X f (encTy x :: encTy y :: caps) (.bool (q x y))) (hlen : l.length ≤ 1099511627776) :
    QCalls Tryd.prog Tryd.X 21 [.sl 2 (encTys l), .sl 2 (encTys r), .clo f caps] (.bool (eqBy q l r)) := by
  by_cases hl : l.length = r.length
  · have hne : ((((encTys l).length : Nat) : Int) != (((encTys r).length : Nat) : Int)) = false := by rw [encTys_length, encTys_length, hl]; simp
    refine QCalls.of Tryd.func21 rfl (fun args w => Tryd.call21 args w) (Nat.le_of_ble_eq_true rfl) [(0, .c (.sl 2 (encTys l))), (1, .c (.sl 2 (encTys r))), (2, .c (.clo f caps))] rfl fun β hβ => ?_; have hf := Tryd.func21
    repeat' (first | refine sto ?_ | (refine AK.condS rfl (fun h => ?_) (fun h => ?_) <;> first | (cases h; done) | rw [h] | skip) | refine uQ hf rfl rfl ?_)
    refine AK.loopE (α := Nat) (fun i => i ≤ l.length ∧ eqBy q l r = eqBy q (l.drop i) (r.drop i)) (fun i => l.length - i)
      (fun i => [(17, .c (.int .i64 i)), (16, .c (.int .i64 (encTys l).length)), (15, .c (.sl 2 (encTys l))), (1, .c (.sl 2 (encTys r))), (2, .c (.clo f caps))]) (fun _ => []) (fun _ => []) [] 0
      ⟨by omega, rfl⟩ ⟨.inl rfl, .inl rfl, .inl rfl, .inl rfl, .inl rfl, trivial⟩ trivial trivial rfl rfl rfl ?_
    rintro i ⟨hi, hinv⟩ ih
    rcases get_or l i hi with ⟨x, hx, hm⟩ | he
    · have hc := tys_lt hx
      obtain ⟨y, hy⟩ : ∃ y, r[i]? = some y := ⟨r[i]'(by have := lt_of_get hx; omega), by simp⟩
      have hq := hp x hm y (List.mem_of_getElem? hy)
      rw [drop_at hx, drop_at hy] at hinv
      simp only [eqBy] at hinv
      obtain ⟨T, args⟩ := x
      obtain ⟨U, us⟩ := y
      repeat' (first | refine sto ?_ | (refine AK.condS rfl (fun h => ?_) (fun h => ?_) <;> first | (cases h; done) | rw [h] | skip) | refine uQ hf rfl rfl ?_ | refine uI rfl (i) rfl (tys_at hx) rfl ?_ | refine uI rfl (i) rfl (tys_at hy) rfl ?_ | refine uC rfl hq ?_)
      · rw [hinv]; simp_all
      · refine AK.again (ih (i + 1) ⟨lt_of_get hx, ?_⟩ (by have := lt_of_get hx; omega)) ⟨.inl (succ64 (by have := lt_of_get hx; omega)), .inl rfl, .inl rfl, .inl rfl, .inl rfl, trivial⟩ trivial trivial rfl rfl rfl
        simp_all
    · have hc := tys_end he
      repeat' (first | refine sto ?_ | (refine AK.condS rfl (fun h => ?_) (fun h => ?_) <;> first | (cases h; done) | rw [h] | skip) | refine uQ hf rfl rfl ?_)
      rw [hinv, eqBy_end q hl he]
  · have hne : ((((encTys l).length : Nat) : Int) != (((encTys r).length : Nat) : Int)) = true := by rw [encTys_length, encTys_length]; simp; omega
    rw [eqBy_len q l r hl]
    refine QCalls.of Tryd.func21 rfl (fun args w => Tryd.call21 args w) (Nat.le_of_ble_eq_true rfl) [(0, .c (.sl 2 (encTys l))), (1, .c (.sl 2 (encTys r))), (2, .c (.clo f caps))] rfl fun β hβ => ?_; have hf := Tryd.func21
    repeat' (first | refine sto ?_ | (refine AK.condS rfl (fun h => ?_) (fun h => ?_) <;> first | (cases h; done) | rw [h] | skip) | refine uQ hf rfl rfl ?_)
    all_goals rfl

set_option maxHeartbeats 0 in
theorem Same_calls : ∀ (t u : Ty), tySize t ≤ 1099511627776 → QCalls Tryd.prog Tryd.X 16 [encTy t, encTy u] (.bool (tySame t u))
  | .mk T args, .mk U us, ht => by
    simp only [tySize] at ht
    have hl1 := tysSize_len args
    have hq := eqFuncTy_calls args us tySame 16 [] (fun x hx y _ => Same_calls x y (by have := tysSize_mem hx; omega)) (by omega)
    rw [eqBy_tys] at hq
    refine QCalls.of Tryd.func16 rfl (fun args w => Tryd.call16 args w) (Nat.le_of_ble_eq_true rfl) [(0, .c (encTy (.mk T args))), (1, .c (encTy (.mk U us)))] rfl fun β hβ => ?_; have hf := Tryd.func16
    repeat' (first | refine sto ?_ | refine uQ hf rfl rfl ?_ | refine uC rfl hq ?_ | ((first | refine AOps.splitT rfl rfl rfl asmo (fun h => ?_) | refine AOps.splitF rfl rfl rfl asmo (fun h => ?_) | refine AOps.split rfl rfl rfl (fun h => ?_) (fun h => ?_)) <;> (fail_if_success (cases h; done)) <;> rw [h]))
    all_goals simp_all [tySame]
termination_by t => SizeOf.sizeOf t
decreasing_by
  have := List.sizeOf_lt_of_mem hx
  simp at this ⊢; omega

end Go.Proofs
