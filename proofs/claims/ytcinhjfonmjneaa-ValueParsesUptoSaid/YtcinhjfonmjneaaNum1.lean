/- The data of the chain, as plain inductive types, and how they lie in memory. Package kind and its reference, as plain functions, and that they answer alike. What kind.arity answers. What slices.IndexFunc over types answers. What slices.ContainsFunc over types and kind.all answer. What kind.Comparable, Packed, Copied and Stored answer, and those of touchstoneref. What made, realType, without, Comparable, Copied, Packed and Stored of package touchstoneref answer. What made, realType, without, Comparable, Copied, Packed and Stored of package touchstoneref answer. What kind.good and kind.Good, and goodType and GoodType of touchstoneref answer. What kind.Good and kind.parse answer. What slices.EqualFunc answers, and Same of kind, SameType and SameNode of touchstoneref, sameNode of touchstonekeep and of value. Package tree and its reference, as plain functions, and their laws. Package value as plain functions: size, has, compare, same; and their laws. Texts compared, and what sign, plain, address, Size, Same and the library's searches over values answer. What the functions In, Abs, bound, Add, Sub and Ediv of package num answer, for all numbers. -/
import Derived.Test.YtcinhjfonmjneaaLibD
import Derived.IntWalk
import Derived.Test.YtcinhjfonmjneaaCtx
import Derived.Laws.Externs
import Derived.Lib.Bytealg
namespace Go.Abs

theorem w64 {n : Int} (h1 : -9223372036854775808 ≤ n) (h2 : n ≤ 9223372036854775807) : IntKind.i64.wrap n = n := IntWalk.i64_in n ⟨h1, h2⟩

inductive Ty where
  | mk (T : Int) (args : List Ty)
  deriving Inhabited

inductive Nd where
  | mk (kind n p : Int) (s : List UInt8) (args : List Nd)
  deriving Inhabited

inductive Vl where
  | mk (k n a : Int) (s : List UInt8) (args : List Vl) (types : List Ty) (code : List Nd)
  deriving Inhabited

abbrev cint (n : Int) : CV := .int .i64 n

mutual
def encTy : Ty → CV
  | .mk T args => .agg [.int .i64 T, .sl 2 (encTys args)]
def encTys : List Ty → List CV
  | [] => []
  | t :: l => encTy t :: encTys l
end

mutual
def encNd : Nd → CV
  | .mk kind n p s args => .agg [.int .i64 kind, .int .i64 n, .int .i64 p, .str s, .sl 5 (encNds args)]
def encNds : List Nd → List CV
  | [] => []
  | t :: l => encNd t :: encNds l
end

mutual
def encVl : Vl → CV
  | .mk k n a s args types code => .agg [.int .i64 k, .int .i64 n, .int .i64 a, .str s, .sl 7 (encVls args), .sl 2 (encTys types), .sl 5 (encNds code)]
def encVls : List Vl → List CV
  | [] => []
  | t :: l => encVl t :: encVls l
end

theorem encTys_get : ∀ (l : List Ty) (i : Nat), (encTys l)[i]? = l[i]?.map encTy
  | [], i => by simp [encTys]
  | t :: l, 0 => by simp [encTys]
  | t :: l, i + 1 => by simp [encTys, encTys_get l i]
theorem encTys_length : ∀ (l : List Ty), (encTys l).length = l.length
  | [] => rfl
  | t :: l => by simp [encTys, encTys_length l]
theorem encNds_get : ∀ (l : List Nd) (i : Nat), (encNds l)[i]? = l[i]?.map encNd
  | [], i => by simp [encNds]
  | t :: l, 0 => by simp [encNds]
  | t :: l, i + 1 => by simp [encNds, encNds_get l i]
theorem encNds_length : ∀ (l : List Nd), (encNds l).length = l.length
  | [] => rfl
  | t :: l => by simp [encNds, encNds_length l]
theorem encVls_get : ∀ (l : List Vl) (i : Nat), (encVls l)[i]? = l[i]?.map encVl
  | [], i => by simp [encVls]
  | t :: l, 0 => by simp [encVls]
  | t :: l, i + 1 => by simp [encVls, encVls_get l i]
theorem encVls_length : ∀ (l : List Vl), (encVls l).length = l.length
  | [] => rfl
  | t :: l => by simp [encVls, encVls_length l]

abbrev I64 (n : Int) : Prop := -9223372036854775808 ≤ n ∧ n ≤ 9223372036854775807

mutual
/-- All numbers in it are numbers of 64 bits. -/
def tyWf : Ty → Prop
  | .mk T args => I64 T ∧ tysWf args
def tysWf : List Ty → Prop
  | [] => True
  | t :: l => tyWf t ∧ tysWf l
end
mutual
def ndWf : Nd → Prop
  | .mk kind n p _ args => I64 kind ∧ I64 n ∧ I64 p ∧ ndsWf args
def ndsWf : List Nd → Prop
  | [] => True
  | t :: l => ndWf t ∧ ndsWf l
end
mutual
def vlWf : Vl → Prop
  | .mk k n a _ args types code => I64 k ∧ I64 n ∧ I64 a ∧ vlsWf args ∧ tysWf types ∧ ndsWf code
def vlsWf : List Vl → Prop
  | [] => True
  | t :: l => vlWf t ∧ vlsWf l
end
mutual
/-- How large it is, all told. -/
def tySize : Ty → Nat
  | .mk _ args => tysSize args + 1
def tysSize : List Ty → Nat
  | [] => 0
  | t :: l => tySize t + tysSize l
end
mutual
def ndSize : Nd → Nat
  | .mk _ _ _ s args => s.length + ndsSize args + 1
def ndsSize : List Nd → Nat
  | [] => 0
  | t :: l => ndSize t + ndsSize l
end
mutual
def vlSize : Vl → Nat
  | .mk _ _ _ s args types code => s.length + vlsSize args + tysSize types + ndsSize code + 1
def vlsSize : List Vl → Nat
  | [] => 0
  | t :: l => vlSize t + vlsSize l
end

theorem tySize_pos (t : Ty) : 1 ≤ tySize t := by cases t; simp [tySize]
theorem ndSize_pos (t : Nd) : 1 ≤ ndSize t := by cases t; simp [ndSize]
theorem vlSize_pos (t : Vl) : 1 ≤ vlSize t := by cases t; simp [vlSize]
theorem tysSize_len : ∀ (l : List Ty), l.length ≤ tysSize l
  | [] => Nat.le_refl _
  | t :: l => by have := tySize_pos t; have := tysSize_len l; simp only [List.length_cons, tysSize]; omega
theorem ndsSize_len : ∀ (l : List Nd), l.length ≤ ndsSize l
  | [] => Nat.le_refl _
  | t :: l => by have := ndSize_pos t; have := ndsSize_len l; simp only [List.length_cons, ndsSize]; omega
theorem vlsSize_len : ∀ (l : List Vl), l.length ≤ vlsSize l
  | [] => Nat.le_refl _
  | t :: l => by have := vlSize_pos t; have := vlsSize_len l; simp only [List.length_cons, vlsSize]; omega
theorem tysSize_mem : ∀ {l : List Ty} {x : Ty}, x ∈ l → tySize x ≤ tysSize l
  | [], x, h => by simp at h
  | t :: l, x, h => by
    simp only [tysSize]
    rcases List.mem_cons.1 h with rfl | h
    · omega
    · have := tysSize_mem h; omega
theorem ndsSize_mem : ∀ {l : List Nd} {x : Nd}, x ∈ l → ndSize x ≤ ndsSize l
  | [], x, h => by simp at h
  | t :: l, x, h => by
    simp only [ndsSize]
    rcases List.mem_cons.1 h with rfl | h
    · omega
    · have := ndsSize_mem h; omega
theorem vlsSize_mem : ∀ {l : List Vl} {x : Vl}, x ∈ l → vlSize x ≤ vlsSize l
  | [], x, h => by simp at h
  | t :: l, x, h => by
    simp only [vlsSize]
    rcases List.mem_cons.1 h with rfl | h
    · omega
    · have := vlsSize_mem h; omega
theorem ndsWf_mem : ∀ {l : List Nd} {x : Nd}, ndsWf l → x ∈ l → ndWf x
  | [], x, _, h => by simp at h
  | t :: l, x, hw, h => by
    rcases List.mem_cons.1 h with rfl | h
    · exact hw.1
    · exact ndsWf_mem hw.2 h
theorem vlsWf_mem : ∀ {l : List Vl} {x : Vl}, vlsWf l → x ∈ l → vlWf x
  | [], x, _, h => by simp at h
  | t :: l, x, hw, h => by
    rcases List.mem_cons.1 h with rfl | h
    · exact hw.1
    · exact vlsWf_mem hw.2 h

end Go.Abs

set_option linter.unusedVariables false
set_option linter.unusedSimpArgs false
namespace Go.Abs

def arity (t : Int) : Int :=
  if t = 1 ∨ t = 2 ∨ t = 3 ∨ t = 4 ∨ t = 5 ∨ t = 6 ∨ t = 7 ∨ t = 8 then 0 else if t = 9 ∨ t = 10 ∨ t = 15 then 1 else if t = 11 ∨ t = 12 ∨ t = 13 ∨ t = 14 then 2 else -1

mutual
/-- All numbers in a type have a property. -/
def tall (p : Int → Bool) : Ty → Bool
  | .mk T args => p T && talls p args
def talls (p : Int → Bool) : List Ty → Bool
  | [] => true
  | t :: l => tall p t && talls p l
end

def compP (t : Int) : Bool := t != 8 && t != 10 && t != 13 && t != 14 && t != 15 && decide (arity t ≥ 0)
def packP (t : Int) : Bool := t != 8 && t != 14 && t != 15
def tComp (t : Ty) : Bool := tall compP t
def tPack (t : Ty) : Bool := tall packP t

mutual
/-- None of some numbers is in a type; what a lambda takes and gives is not looked into. -/
def tNone (p : Int → Bool) : Ty → Bool
  | .mk T args => if T = 14 then true else p T && tNones p args
def tNones (p : Int → Bool) : List Ty → Bool
  | [] => true
  | t :: l => tNone p t && tNones p l
end
def copyP (t : Int) : Bool := t != 15 && t != 8
def storeP (t : Int) : Bool := t != 8
def tCopy (t : Ty) : Bool := tNone copyP t
def tStore (t : Ty) : Bool := tNone storeP t

def headComp : List Ty → Bool
  | [] => false
  | t :: _ => tComp t

mutual
/-- good: whether, and how many were counted. -/
def kGood : Ty → Int → Int → Bool × Int
  | .mk T args, d, n => if d > 24 ∨ n + 1 > 300 ∨ arity T ≠ args.length then (false, n + 1) else
    match kGoods args (d + 1) (n + 1) with
    | (true, m) => (if T = 13 ∨ T = 15 then headComp args else true, m)
    | (false, m) => (false, m)
def kGoods : List Ty → Int → Int → Bool × Int
  | [], _, n => (true, n)
  | t :: l, d, n => match kGood t d n with
    | (true, m) => kGoods l d m
    | (false, m) => (false, m)
end
def tGood (t : Ty) : Bool := (kGood t 1 0).1

mutual
theorem kGood_le : ∀ (t : Ty) (d n : Int), n ≤ 300 → n < (kGood t d n).2 ∧ (kGood t d n).2 ≤ 301 ∧ ((kGood t d n).1 = true → (kGood t d n).2 ≤ 300)
  | .mk T args, d, n, hn => by
    simp only [kGood]
    split
    · refine ⟨by simp; omega, by simp; omega, by simp⟩
    · rename_i h
      have ih := kGoods_le args (d + 1) (n + 1) (by omega)
      split
      · rename_i m hm
        rw [hm] at ih
        have := ih.2.2 rfl
        refine ⟨by simp only; have := ih.1; simp only at this; omega, by simp only at this ⊢; omega, fun _ => this⟩
      · rename_i m hm
        rw [hm] at ih
        refine ⟨by simp only; have := ih.1; simp only at this; omega, ih.2.1, by simp⟩
theorem kGoods_le : ∀ (l : List Ty) (d n : Int), n ≤ 300 → n ≤ (kGoods l d n).2 ∧ (kGoods l d n).2 ≤ 301 ∧ ((kGoods l d n).1 = true → (kGoods l d n).2 ≤ 300)
  | [], d, n, hn => by simp only [kGoods]; exact ⟨by omega, by omega, fun _ => hn⟩
  | t :: l, d, n, hn => by
    have ih := kGood_le t d n hn
    simp only [kGoods]
    split
    · rename_i m hm
      rw [hm] at ih
      have h1 := ih.2.2 rfl
      have h2 := ih.1
      simp only at h1 h2
      have ih2 := kGoods_le l d m h1
      exact ⟨by omega, ih2.2⟩
    · rename_i m hm
      rw [hm] at ih
      have h1 := ih.1; have h2 := ih.2.1
      simp only at h1 h2
      exact ⟨by simp only; omega, h2, by simp⟩
end

mutual
/-- parse: the type, if it is one, and what is left. -/
def kParse : Nd → Int → Int → Option Ty × Int
  | .mk kind n p s args, d, left => if left - 1 < 0 ∨ d > 24 ∨ kind ≠ 2 ∨ n ≠ 0 ∨ s ≠ [] ∨ arity p ≠ args.length then (none, left - 1) else
    match kParses args (d + 1) (left - 1) with
    | (some l, m) => (some (.mk p l), m)
    | (none, m) => (none, m)
def kParses : List Nd → Int → Int → Option (List Ty) × Int
  | [], _, left => (some [], left)
  | x :: l, d, left => match kParse x d left with
    | (some t, m) => match kParses l d m with
      | (some r, m') => (some (t :: r), m')
      | (none, m') => (none, m')
    | (none, m) => (none, m)
end

/-- Parse: the type and the error. -/
def tParse (n : Nd) : Ty × Int := match (kParse n 1 300).1 with
  | some t => if tGood t then (t, 0) else (.mk 0 [], 1)
  | none => (.mk 0 [], 1)

mutual
/-- A type's tree. -/
def tyNd : Ty → Nd
  | .mk T args => .mk 2 0 T [] (tyNds args)
def tyNds : List Ty → List Nd
  | [] => []
  | t :: l => tyNd t :: tyNds l
end
def nd0 : Nd := .mk 0 0 0 [] []
def ty0 : Ty := .mk 0 []
def tNode (t : Ty) : Nd × Int := if tGood t then (tyNd t, 0) else (nd0, 1)

mutual
def tySame : Ty → Ty → Bool
  | .mk T l, .mk U r => T == U && tysSame l r
def tysSame : List Ty → List Ty → Bool
  | [], [] => true
  | t :: l, u :: r => tySame t u && tysSame l r
  | _, _ => false
end
mutual
def ndSame : Nd → Nd → Bool
  | .mk a b c s l, .mk a' b' c' s' l' => a == a' && b == b' && c == c' && s == s' && ndsSame l l'
def ndsSame : List Nd → List Nd → Bool
  | [], [] => true
  | t :: l, u :: r => ndSame t u && ndsSame l r
  | _, _ => false
end
mutual
theorem tySame_iff : ∀ (t u : Ty), tySame t u = true ↔ t = u
  | .mk T l, .mk U r => by simp [tySame, tysSame_iff l r]
theorem tysSame_iff : ∀ (t u : List Ty), tysSame t u = true ↔ t = u
  | [], [] => by simp [tysSame]
  | [], _ :: _ => by simp [tysSame]
  | _ :: _, [] => by simp [tysSame]
  | t :: l, u :: r => by simp [tysSame, tySame_iff t u, tysSame_iff l r]
end
mutual
theorem ndSame_iff : ∀ (t u : Nd), ndSame t u = true ↔ t = u
  | .mk a b c s l, .mk a' b' c' s' l' => by simp [ndSame, ndsSame_iff l l', and_assoc]
theorem ndsSame_iff : ∀ (t u : List Nd), ndsSame t u = true ↔ t = u
  | [], [] => by simp [ndsSame]
  | [], _ :: _ => by simp [ndsSame]
  | _ :: _, [] => by simp [ndsSame]
  | t :: l, u :: r => by simp [ndsSame, ndSame_iff t u, ndsSame_iff l r]
end
theorem tysSame_len : ∀ (t u : List Ty), t.length ≠ u.length → tysSame t u = false
  | [], [], h => by simp at h
  | [], _ :: _, _ => by simp [tysSame]
  | _ :: _, [], _ => by simp [tysSame]
  | t :: l, u :: r, h => by simp [tysSame, tysSame_len l r (by simpa using h)]
theorem ndsSame_len : ∀ (t u : List Nd), t.length ≠ u.length → ndsSame t u = false
  | [], [], h => by simp at h
  | [], _ :: _, _ => by simp [ndsSame]
  | _ :: _, [], _ => by simp [ndsSame]
  | t :: l, u :: r, h => by simp [ndsSame, ndsSame_len l r (by simpa using h)]

-- the reference
mutual
def rReal : Ty → Bool
  | .mk T args => decide (arity T ≥ 0) && rReals args
def rReals : List Ty → Bool
  | [] => true
  | t :: l => rReal t && rReals l
end
mutual
/-- without -/
def rWout (lam : Bool) (q : List Int) : Ty → Bool
  | .mk T args => if q.contains T then false else if T = 14 ∧ lam = false then true else rWouts lam q args
def rWouts (lam : Bool) (q : List Int) : List Ty → Bool
  | [] => true
  | t :: l => rWout lam q t && rWouts lam q l
end
def rComp (t : Ty) : Bool := rReal t && rWout true [8, 10, 13, 14, 15] t

mutual
theorem rComp_eq : ∀ (t : Ty), (rReal t && rWout true [8, 10, 13, 14, 15] t) = tComp t
  | .mk T args => by
    have ih := rComps_eq args
    simp only [tComp, tall, rReal, rWout, ← ih, compP]
    generalize decide (arity T ≥ 0) = A
    cases A <;> by_cases h2 : T = 8 <;> by_cases h3 : T = 10 <;> by_cases h4 : T = 13 <;> by_cases h5 : T = 14 <;> by_cases h6 : T = 15 <;> simp_all
theorem rComps_eq : ∀ (l : List Ty), (rReals l && rWouts true [8, 10, 13, 14, 15] l) = talls compP l
  | [] => rfl
  | t :: l => by
    have h1 := rComp_eq t
    have h2 := rComps_eq l
    simp only [tComp] at h1
    simp only [talls, ← h1, ← h2, rReals, rWouts]
    cases rReal t <;> cases rReals l <;> cases rWout true [8, 10, 13, 14, 15] t <;> simp
end
mutual
theorem rPack_eq : ∀ (t : Ty), rWout true [8, 14, 15] t = tPack t
  | .mk T args => by
    have ih := rPacks_eq args
    simp only [tPack, tall, rWout, ← ih, packP]
    by_cases h2 : T = 8 <;> by_cases h5 : T = 14 <;> by_cases h6 : T = 15 <;> simp_all
theorem rPacks_eq : ∀ (l : List Ty), rWouts true [8, 14, 15] l = talls packP l
  | [] => rfl
  | t :: l => by
    have h1 := rPack_eq t
    have h2 := rPacks_eq l
    simp only [tPack] at h1
    simp only [talls, ← h1, ← h2, rWouts]
end
mutual
/-- goodType -/
def rGood : Ty → Int → Int → Bool × Int
  | .mk T args, d, left => if d = 0 ∨ left = 0 ∨ arity T ≠ args.length then (false, 0) else
    match rGoods args (d - 1) (left - 1) with
    | (true, m) => (if T = 13 ∨ T = 15 then headComp args else true, m)
    | (false, _) => (false, 0)
def rGoods : List Ty → Int → Int → Bool × Int
  | [], _, left => (true, left)
  | t :: l, d, left => match rGood t d left with
    | (true, m) => rGoods l d m
    | (false, _) => (false, 0)
end

mutual
theorem rGood_eq : ∀ (t : Ty) (d n : Int), d ≤ 25 → n ≤ 300 → (rGood t (25 - d) (300 - n)).1 = (kGood t d n).1 ∧ ((kGood t d n).1 = true → (rGood t (25 - d) (300 - n)).2 = 300 - (kGood t d n).2)
  | .mk T args, d, n, hd, hn => by
    simp only [kGood, rGood]
    by_cases h : d > 24 ∨ n + 1 > 300 ∨ arity T ≠ args.length
    · rw [if_pos h, if_pos (by omega)]; simp
    · rw [if_neg h, if_neg (by omega)]
      have ih := rGoods_eq args (d + 1) (n + 1) (by omega) (by omega)
      rw [show 25 - (d + 1) = 25 - d - 1 from by omega, show 300 - (n + 1) = 300 - n - 1 from by omega] at ih
      rcases hk : kGoods args (d + 1) (n + 1) with ⟨b, m⟩
      rcases hr : rGoods args (25 - d - 1) (300 - n - 1) with ⟨b', m'⟩
      rw [hk, hr] at ih
      obtain ⟨e1, e2⟩ := ih
      simp only at e1 e2
      subst e1
      cases b'
      · simp
      · simp only; exact ⟨trivial, fun _ => e2 rfl⟩
theorem rGoods_eq : ∀ (l : List Ty) (d n : Int), d ≤ 25 → n ≤ 300 → (rGoods l (25 - d) (300 - n)).1 = (kGoods l d n).1 ∧ ((kGoods l d n).1 = true → (rGoods l (25 - d) (300 - n)).2 = 300 - (kGoods l d n).2)
  | [], d, n, hd, hn => by simp [kGoods, rGoods]
  | t :: l, d, n, hd, hn => by
    have ih := rGood_eq t d n hd hn
    have hle := kGood_le t d n hn
    simp only [kGoods, rGoods]
    rcases hk : kGood t d n with ⟨b, m⟩
    rcases hr : rGood t (25 - d) (300 - n) with ⟨b', m'⟩
    rw [hk, hr] at ih
    rw [hk] at hle
    obtain ⟨e1, e2⟩ := ih
    simp only at e1 e2 hle
    subst e1
    cases b'
    · simp
    · simp only
      rw [e2 rfl]
      exact rGoods_eq l d m hd (hle.2.2 rfl)
end
theorem rGood_top (t : Ty) : (rGood t 24 300).1 = tGood t := by
  have := (rGood_eq t 1 0 (by omega) (by omega)).1
  simpa [tGood] using this

mutual
/-- typeOf -/
def rType : Nd → Int → Int → Ty × Int
  | .mk kind n p s args, d, left => if kind ≠ 2 ∨ n ≠ 0 ∨ s ≠ [] ∨ d = 0 ∨ left - 1 < 0 then (ty0, left - 1) else
    match rTypes args (d - 1) (left - 1) with
    | (l, m) => (.mk p l, m)
def rTypes : List Nd → Int → Int → List Ty × Int
  | [], _, left => ([], left)
  | x :: l, d, left => match rType x d left with
    | (t, m) => match rTypes l d m with
      | (r, m') => (t :: r, m')
end

mutual
/-- Somewhere in it the number of parts is wrong. -/
def tBad : Ty → Bool
  | .mk T args => decide (arity T ≠ args.length) || tBads args
def tBads : List Ty → Bool
  | [] => false
  | t :: l => tBad t || tBads l
end

mutual
theorem bad_good : ∀ (t : Ty) (d n : Int), tBad t = true → (rGood t d n).1 = false
  | .mk T args, d, n, h => by
    simp only [rGood]
    split
    · rfl
    · rename_i hc
      simp only [tBad, Bool.or_eq_true, decide_eq_true_eq] at h
      have h2 : tBads args = true := by
        rcases h with h | h
        · omega
        · exact h
      have ih := bads_good args (d - 1) (n - 1) h2
      rcases hr : rGoods args (d - 1) (n - 1) with ⟨b, m⟩
      rw [hr] at ih
      simp only at ih; subst ih
      rfl
theorem bads_good : ∀ (l : List Ty) (d n : Int), tBads l = true → (rGoods l d n).1 = false
  | [], d, n, h => by simp [tBads] at h
  | t :: l, d, n, h => by
    simp only [tBads, Bool.or_eq_true] at h
    simp only [rGoods]
    rcases hr : rGood t d n with ⟨b, m⟩
    cases b
    · rfl
    · have h2 : tBads l = true := by
        rcases h with h | h
        · have := bad_good t d n h; rw [hr] at this; simp at this
        · exact h
      exact bads_good l d m h2
end

def rParse (n : Nd) : Ty × Int := if (rGood (rType n 24 300).1 24 300).1 then ((rType n 24 300).1, 0) else (.mk 0 [], 1)

end Go.Abs

set_option linter.unusedVariables false
set_option linter.unusedSimpArgs false
namespace Go.Proofs
open Go.Abs

attribute [local irreducible] AK AOps QCalls

set_option maxHeartbeats 0 in
theorem arity_calls (t : Int) : QCalls Try.prog Try.X 97 [.int .i64 t] (.int .i64 (arity t)) := by
  refine QCalls.of Try.func97 rfl (fun args w => Try.call97 args w) (Nat.le_of_ble_eq_true rfl) [(0, .c (.int .i64 t))] rfl fun β hβ => ?_; have hf := Try.func97
  repeat' (first | refine st ?_ | (refine AK.condS rfl (fun h => ?_) (fun h => ?_) <;> first | (cases h; done) | rw [h] | skip) | refine uQ hf rfl rfl ?_)
  all_goals simp_all [arity]

end Go.Proofs

set_option linter.unusedVariables false
set_option linter.unusedSimpArgs false
namespace Go.Proofs
open Go.Abs
attribute [local irreducible] AK AOps QCalls

/-- The place of the first that has a property, -1 if there is none. -/
def idxOf {α : Type} (p : α → Bool) : List α → Int
  | [] => -1
  | x :: l => if p x then 0 else (match idxOf p l with
    | -1 => -1
    | n => n + 1)

theorem idxOf_cases {α : Type} (p : α → Bool) : ∀ (l : List α), (idxOf p l = -1 ∧ ∀ x ∈ l, p x = false) ∨ ∃ (i : Nat) (x : α), l[i]? = some x ∧ p x = true ∧ (∀ (j : Nat) y, j < i → l[j]? = some y → p y = false) ∧ idxOf p l = i
  | [] => .inl ⟨rfl, by simp⟩
  | x :: l => by
    by_cases hx : p x
    · right; exact ⟨0, x, by simp, hx, by simp, by simp [idxOf, hx]⟩
    · rcases idxOf_cases p l with ⟨h1, h2⟩ | ⟨i, y, h1, h2, h3, h4⟩
      · left; exact ⟨by simp [idxOf, hx, h1], by simpa [hx] using h2⟩
      · right
        refine ⟨i + 1, y, by simpa using h1, h2, ?_, ?_⟩
        · intro j z hj hz
          cases j with
          | zero => simp at hz; subst hz; simpa using hx
          | succ j => simp at hz; exact h3 j z (by omega) hz
        · have : idxOf p (x :: l) = (match idxOf p l with | -1 => -1 | n => n + 1) := by simp [idxOf, hx]
          rw [this, h4]
          split
          · omega
          · rfl

theorem idxOf_first {α : Type} (p : α → Bool) (l : List α) (i : Nat) (x : α) (hx : l[i]? = some x) (h : p x = true) (hb : ∀ (j : Nat) y, j < i → l[j]? = some y → p y = false) : idxOf p l = i := by
  rcases idxOf_cases p l with ⟨h1, h2⟩ | ⟨k, y, h1, h2, h3, h4⟩
  · have := h2 x (List.mem_of_getElem? hx); rw [h] at this; simp at this
  · rw [h4]
    rcases Nat.lt_trichotomy i k with hlt | rfl | hlt
    · have := h3 i x hlt hx; rw [h] at this; simp at this
    · rfl
    · have := hb k y hlt h1; rw [h2] at this; simp at this

theorem idxOf_none {α : Type} (p : α → Bool) (l : List α) (h : ∀ (j : Nat) y, l[j]? = some y → p y = false) : idxOf p l = -1 := by
  rcases idxOf_cases p l with ⟨h1, _⟩ | ⟨k, y, h1, h2, _⟩
  · exact h1
  · have := h k y h1; rw [h2] at this; simp at this

theorem idxOf_any {α : Type} (p : α → Bool) (l : List α) : decide (idxOf p l ≥ 0) = l.any p := by
  rcases idxOf_cases p l with ⟨h1, h2⟩ | ⟨k, y, h1, h2, h3, h4⟩
  · rw [h1]; symm; simp; intro x hx; simpa using h2 x hx
  · rw [h4]; symm; simp; exact ⟨y, List.mem_of_getElem? h1, h2⟩

set_option maxHeartbeats 1000000 in
theorem indexTy_calls (l : List Ty) (p : Ty → Bool) (f : FuncId) (caps : List CV) (hp : ∀ x ∈ l, QCalls Try.prog Try.X f (encTy x :: caps) (.bool (p x))) (hlen : l.length ≤ 1099511627776) :
    QCalls Try.prog Try.X 130 [.sl 2 (encTys l), .clo f caps] (.int .i64 (idxOf p l)) := by
  refine QCalls.of Try.func130 rfl (fun args w => Try.call130 args w) (Nat.le_of_ble_eq_true rfl) [(0, .c (.sl 2 (encTys l))), (1, .c (.clo f caps))] rfl fun β hβ => ?_; have hf := Try.func130
  refine AK.runP Try.hX Try.mixed 300 rfl ?_
  refine AK.loopE (α := Nat) (fun i => i ≤ l.length ∧ ∀ (j : Nat) x, j < i → l[j]? = some x → p x = false) (fun i => l.length - i)
    (fun i => [(8, .c (.int .i64 i)), (7, .c (.int .i64 (encTys l).length)), (0, .c (.sl 2 (encTys l))), (1, .c (.clo f caps))]) (fun _ => []) (fun _ => []) [] 0
    ⟨by omega, by intro j x h; omega⟩ ⟨.inl rfl, .inl rfl, .inl rfl, .inl rfl, trivial⟩ trivial trivial rfl rfl rfl ?_
  rintro i ⟨hi, hno⟩ ih
  repeat' (first | refine st ?_ | (refine AK.condS rfl (fun h => ?_) (fun h => ?_) <;> first | (cases h; done) | rw [h] | skip) | refine uQ hf rfl rfl ?_)
  · have hlt : i < l.length := by simpa [encTys_length] using h
    obtain ⟨⟨T, args⟩, hx⟩ : ∃ x, l[i]? = some x := ⟨l[i], by simp [hlt]⟩
    refine AOps.index Try.hX rfl rfl rfl rfl rfl rfl rfl rfl rfl rfl i rfl (by rw [encTys_get, hx]; rfl) rfl ?_
    repeat' (first | refine st ?_ | (refine AK.condS rfl (fun h => ?_) (fun h => ?_) <;> first | (cases h; done) | rw [h] | skip) | refine uQ hf rfl rfl ?_ | refine uC rfl (hp ⟨T, args⟩ (List.mem_of_getElem? hx)) ?_)
    · rw [idxOf_first p l i ⟨T, args⟩ hx h hno]
    · have hp' := h
      have ih' := ih (i + 1) ⟨by omega, fun j x hj hjx => by
        by_cases hji : j = i
        · subst hji; rw [hx] at hjx; simp at hjx; subst hjx; exact hp'
        · exact hno j x (by omega) hjx⟩ (by omega)
      refine AK.again ih' ⟨.inl ?_, .inl rfl, .inl rfl, .inl rfl, trivial⟩ trivial trivial rfl rfl rfl
      rw [w64 (by omega) (by omega)]; rfl
  · have hge : l.length ≤ i := by simpa [encTys_length] using h
    rw [idxOf_none p l fun j y hy => hno j y (by have := (List.getElem?_eq_some_iff.1 hy).1; omega) hy]

end Go.Proofs

set_option linter.unusedVariables false
set_option linter.unusedSimpArgs false
namespace Go.Proofs
open Go.Abs
attribute [local irreducible] AK AOps QCalls

theorem containsTy_calls (l : List Ty) (p : Ty → Bool) (f : FuncId) (caps : List CV) (hp : ∀ x ∈ l, QCalls Try.prog Try.X f (encTy x :: caps) (.bool (p x))) (hlen : l.length ≤ 1099511627776) :
    QCalls Try.prog Try.X 99 [.sl 2 (encTys l), .clo f caps] (.bool (l.any p)) := by
  refine QCalls.of Try.func99 rfl (fun args w => Try.call99 args w) (Nat.le_of_ble_eq_true rfl) [(0, .c (.sl 2 (encTys l))), (1, .c (.clo f caps))] rfl fun β hβ => ?_; have hf := Try.func99
  repeat' (first | refine st ?_ | refine uQ hf rfl rfl ?_ | refine uC rfl (indexTy_calls l p f caps hp hlen) ?_)
  rw [idxOf_any]

theorem talls_any (p : Int → Bool) : ∀ (l : List Ty), (!(l.any fun x => !tall p x)) = talls p l
  | [] => rfl
  | t :: l => by simp only [talls, ← talls_any p l, List.any_cons]; cases tall p t <;> simp

set_option maxHeartbeats 1000000 in
theorem all_calls (p : Int → Bool) (f : FuncId) (caps : List CV) (hp : ∀ n : Int, QCalls Try.prog Try.X f (.int .i64 n :: caps) (.bool (p n))) :
    ∀ (t : Ty), tySize t ≤ 1099511627776 → QCalls Try.prog Try.X 95 [encTy t, .clo f caps] (.bool (tall p t))
  | .mk T args, ht => by
    simp only [tySize] at ht
    have hl1 := tysSize_len args
    have hin : ∀ x ∈ args, QCalls Try.prog Try.X 129 (encTy x :: [.ip [.clo f caps]]) (.bool (!tall p x)) := by
      intro x hx
      have hrec := all_calls p f caps hp x (by have := tysSize_mem hx; omega)
      obtain ⟨T', args'⟩ := x
      refine QCalls.of Try.func129 rfl (fun args w => Try.call129 args w) (Nat.le_of_ble_eq_true rfl) [(0, .c (encTy (.mk T' args'))), (1, .c (.ip [.clo f caps]))] rfl fun β hβ => ?_; have hf := Try.func129
      repeat' (first | refine st ?_ | refine uQ hf rfl rfl ?_ | refine uC rfl hrec ?_)
      rfl
    refine QCalls.of Try.func95 rfl (fun args w => Try.call95 args w) (Nat.le_of_ble_eq_true rfl) [(0, .c (encTy (.mk T args))), (1, .c (.clo f caps))] rfl fun β hβ => ?_; have hf := Try.func95
    refine AK.seq ?_
    refine AK.region Try.mixed rfl ?_
    repeat' (first | refine so ?_ | ((first | refine AOps.splitT rfl rfl rfl asm (fun h => ?_) | refine AOps.splitF rfl rfl rfl asm (fun h => ?_) | refine AOps.split rfl rfl rfl (fun h => ?_) (fun h => ?_)) <;> (fail_if_success (cases h; done)) <;> rw [h]))
    refine AK.freeze 3 rfl rfl rfl rfl ?_
    repeat' (first | refine st ?_ | refine uQ hf rfl rfl ?_ | refine uC rfl (hp T) ?_ | refine uC rfl (containsTy_calls args (fun x => !tall p x) _ _ hin (by omega)) ?_ | ((first | refine AOps.splitT rfl rfl rfl asm (fun h => ?_) | refine AOps.splitF rfl rfl rfl asm (fun h => ?_) | refine AOps.split rfl rfl rfl (fun h => ?_) (fun h => ?_)) <;> (fail_if_success (cases h; done)) <;> rw [h]))
    · simp only [tall, ← talls_any, h, Bool.true_and, cond_true]
    · simp only [tall, h, Bool.false_and]
termination_by t => SizeOf.sizeOf t
decreasing_by
  have := List.sizeOf_lt_of_mem hx
  simp at this ⊢; omega

end Go.Proofs

set_option linter.unusedVariables false
set_option linter.unusedSimpArgs false
namespace Go.Proofs
open Go.Abs
attribute [local irreducible] AK AOps QCalls

theorem drop_at {α : Type} {l : List α} {i : Nat} {x : α} (h : l[i]? = some x) : l.drop i = x :: l.drop (i + 1) := by
  obtain ⟨h1, h2⟩ := List.getElem?_eq_some_iff.1 h
  rw [List.drop_eq_getElem_cons h1, h2]
theorem lt_of_get {α : Type} {l : List α} {i : Nat} {x : α} (h : l[i]? = some x) : i < l.length := (List.getElem?_eq_some_iff.1 h).1
theorem get_or {α : Type} (l : List α) (i : Nat) (hi : i ≤ l.length) : (∃ x, l[i]? = some x ∧ x ∈ l) ∨ i = l.length := by
  rcases Nat.lt_or_ge i l.length with h | h
  · exact .inl ⟨l[i], by simp [h], List.getElem_mem h⟩
  · right; omega
theorem tys_at {l : List Ty} {i : Nat} {x : Ty} (h : l[i]? = some x) : (encTys l)[i]? = some (encTy x) := by rw [encTys_get, h]; rfl
theorem dec_lt {a b : Int} (h : a < b) : decide (a < b) = true := decide_eq_true h
theorem dec_ge {a b : Int} (h : b ≤ a) : decide (a < b) = false := decide_eq_false (by omega)
theorem tys_lt {l : List Ty} {i : Nat} {x : Ty} (h : l[i]? = some x) : decide (((i : Nat) : Int) < (((encTys l).length : Nat) : Int)) = true := dec_lt (by have := lt_of_get h; rw [encTys_length]; omega)
theorem tys_end {l : List Ty} {i : Nat} (h : i = l.length) : decide (((i : Nat) : Int) < (((encTys l).length : Nat) : Int)) = false := dec_ge (by rw [encTys_length]; omega)

theorem compF_calls (n : Int) : QCalls Try.prog Try.X 96 [.int .i64 n] (.bool (compP n)) := by
  refine QCalls.of Try.func96 rfl (fun args w => Try.call96 args w) (Nat.le_of_ble_eq_true rfl) [(0, .c (.int .i64 n))] rfl fun β hβ => ?_; have hf := Try.func96
  repeat' (first | refine st ?_ | refine uQ hf rfl rfl ?_ | refine uC rfl (arity_calls n) ?_ | ((first | refine AOps.splitT rfl rfl rfl asm (fun h => ?_) | refine AOps.splitF rfl rfl rfl asm (fun h => ?_) | refine AOps.split rfl rfl rfl (fun h => ?_) (fun h => ?_)) <;> (fail_if_success (cases h; done)) <;> rw [h]))
  all_goals simp_all [compP]
theorem packF_calls (n : Int) : QCalls Try.prog Try.X 98 [.int .i64 n] (.bool (packP n)) := by
  refine QCalls.of Try.func98 rfl (fun args w => Try.call98 args w) (Nat.le_of_ble_eq_true rfl) [(0, .c (.int .i64 n))] rfl fun β hβ => ?_; have hf := Try.func98
  repeat' (first | refine st ?_ | refine uQ hf rfl rfl ?_ | ((first | refine AOps.splitT rfl rfl rfl asm (fun h => ?_) | refine AOps.splitF rfl rfl rfl asm (fun h => ?_) | refine AOps.split rfl rfl rfl (fun h => ?_) (fun h => ?_)) <;> (fail_if_success (cases h; done)) <;> rw [h]))
  all_goals simp_all [packP]
theorem Comparable_calls (t : Ty) (ht : tySize t ≤ 1099511627776) : QCalls Try.prog Try.X 49 [encTy t] (.bool (tComp t)) := by
  have hq := all_calls compP 96 [] compF_calls t ht
  obtain ⟨T, args⟩ := t
  refine QCalls.of Try.func49 rfl (fun args w => Try.call49 args w) (Nat.le_of_ble_eq_true rfl) [(0, .c (encTy (.mk T args)))] rfl fun β hβ => ?_; have hf := Try.func49
  repeat' (first | refine st ?_ | refine uQ hf rfl rfl ?_ | refine uC rfl hq ?_)
  rfl
theorem Packed_calls (t : Ty) (ht : tySize t ≤ 1099511627776) : QCalls Try.prog Try.X 50 [encTy t] (.bool (tPack t)) := by
  have hq := all_calls packP 98 [] packF_calls t ht
  obtain ⟨T, args⟩ := t
  refine QCalls.of Try.func50 rfl (fun args w => Try.call50 args w) (Nat.le_of_ble_eq_true rfl) [(0, .c (encTy (.mk T args)))] rfl fun β hβ => ?_; have hf := Try.func50
  repeat' (first | refine st ?_ | refine uQ hf rfl rfl ?_ | refine uC rfl hq ?_)
  rfl

end Go.Proofs

set_option linter.unusedVariables false
set_option linter.unusedSimpArgs false
namespace Go.Proofs
open Go.Abs
attribute [local irreducible] AK AOps QCalls

-- the reference
theorem arity_none (t : Int) (h : t < 1 ∨ t > 15) : arity t = -1 := by
  unfold arity
  rw [if_neg (by omega), if_neg (by omega), if_neg (by omega)]

set_option maxHeartbeats 1000000 in
theorem made_calls (t : Int) : QCalls Try.prog Try.X 131 [.int .i64 t] (.int .i64 (arity t)) := by
  by_cases hr : t < 1 ∨ t > 15
  · refine QCalls.of Try.func131 rfl (fun args w => Try.call131 args w) (Nat.le_of_ble_eq_true rfl) [(0, .c (.int .i64 t))] rfl fun β hβ => ?_; have hf := Try.func131
    repeat' (first | refine st ?_ | (refine AK.condS rfl (fun h => ?_) (fun h => ?_) <;> first | (cases h; done) | rw [h] | skip) | refine uQ hf rfl rfl ?_ | ((first | refine AOps.splitT rfl rfl rfl asm (fun h => ?_) | refine AOps.splitF rfl rfl rfl asm (fun h => ?_) | refine AOps.split rfl rfl rfl (fun h => ?_) (fun h => ?_)) <;> (fail_if_success (cases h; done)) <;> rw [h]))
    · rw [arity_none t hr]
    · rw [arity_none t hr]
    · exfalso
      simp only [cond_false, decide_eq_false_iff_not] at *
      omega
  · have h15 : t = 1 ∨ t = 2 ∨ t = 3 ∨ t = 4 ∨ t = 5 ∨ t = 6 ∨ t = 7 ∨ t = 8 ∨ t = 9 ∨ t = 10 ∨ t = 11 ∨ t = 12 ∨ t = 13 ∨ t = 14 ∨ t = 15 := by omega
    rcases h15 with rfl | rfl | rfl | rfl | rfl | rfl | rfl | rfl | rfl | rfl | rfl | rfl | rfl | rfl | rfl
    all_goals
      refine QCalls.of Try.func131 rfl (fun args w => Try.call131 args w) (Nat.le_of_ble_eq_true rfl) [(0, .c (.int .i64 _))] rfl fun β hβ => ?_; have hf := Try.func131
      repeat' (first | refine st ?_ | (refine AK.condS rfl (fun h => ?_) (fun h => ?_) <;> first | (cases h; done) | rw [h] | skip) | refine uQ hf rfl rfl ?_ | ((first | refine AOps.splitT rfl rfl rfl asm (fun h => ?_) | refine AOps.splitF rfl rfl rfl asm (fun h => ?_) | refine AOps.split rfl rfl rfl (fun h => ?_) (fun h => ?_)) <;> (fail_if_success (cases h; done)) <;> rw [h]))
      all_goals first | rfl | (simp [arity]; done) | (exfalso; simp_all; done)
end Go.Proofs

set_option linter.unusedVariables false
set_option linter.unusedSimpArgs false
set_option maxRecDepth 100000
namespace Go.Proofs
open Go.Abs
attribute [local irreducible] AK AOps QCalls


abbrev intRows (q : List Int) : List CV := q.map fun n => .int .i64 n

theorem ints_at {l : List Int} {i : Nat} {x : Int} (h : l[i]? = some x) : (intRows l)[i]? = some (.int .i64 x) := by simp [intRows, h]
theorem ints_lt {l : List Int} {i : Nat} {x : Int} (h : l[i]? = some x) : decide (((i : Nat) : Int) < (((intRows l).length : Nat) : Int)) = true := dec_lt (by have := lt_of_get h; simp [intRows]; omega)
theorem ints_end {l : List Int} {i : Nat} (h : i = l.length) : decide (((i : Nat) : Int) < (((intRows l).length : Nat) : Int)) = false := dec_ge (by simp [intRows]; omega)
theorem succ64 {i : Nat} (h : i < 1099511627776) : some (AV.c (CV.int .i64 (IntKind.i64.wrap ((i : Int) + 1)))) = some (AV.c (CV.int .i64 ((i + 1 : Nat) : Int))) := by
  rw [w64 (by omega) (by omega)]; rfl

set_option maxHeartbeats 1000000 in
theorem realType_calls : ∀ (t : Ty), tySize t ≤ 1099511627776 → QCalls Try.prog Try.X 106 [encTy t] (.bool (rReal t))
  | .mk T args, ht => by
    simp only [tySize] at ht
    have hl1 := tysSize_len args
    have hin : ∀ x ∈ args, QCalls Try.prog Try.X 106 [encTy x] (.bool (rReal x)) := fun x hx => realType_calls x (by have := tysSize_mem hx; omega)
    refine QCalls.of Try.func106 rfl (fun args w => Try.call106 args w) (Nat.le_of_ble_eq_true rfl) [(0, .c (encTy (.mk T args)))] rfl fun β hβ => ?_; have hf := Try.func106
    repeat' (first | refine st ?_ | (refine AK.condS rfl (fun h => ?_) (fun h => ?_) <;> first | (cases h; done) | rw [h] | skip) | refine uQ hf rfl rfl ?_ | refine uC rfl (made_calls T) ?_)
    · have h0 : decide (arity T ≥ 0) = false := decide_eq_false (by simp_all)
      simp only [rReal, h0, Bool.false_and]
    · refine AK.loopE (α := Nat) (fun i => i ≤ args.length ∧ rReals args = rReals (args.drop i)) (fun i => args.length - i)
        (fun i => [(12, .c (.int .i64 i)), (11, .c (.int .i64 (encTys args).length)), (10, .c (.sl 2 (encTys args)))]) (fun _ => []) (fun _ => []) [] 0
        ⟨by omega, rfl⟩ ⟨.inl rfl, .inl rfl, .inl rfl, trivial⟩ trivial trivial rfl rfl rfl ?_
      rintro i ⟨hi, hinv⟩ ih
      have hT : rReal (.mk T args) = rReals args := by simp_all [rReal]
      rcases get_or args i hi with ⟨x, hx, hm⟩ | he
      · have hc := tys_lt hx
        have hq := hin x hm
        rw [drop_at hx] at hinv
        simp only [rReals] at hinv
        obtain ⟨U, us⟩ := x
        repeat' (first | refine st ?_ | (refine AK.condS rfl (fun h => ?_) (fun h => ?_) <;> first | (cases h; done) | rw [h] | skip) | refine uQ hf rfl rfl ?_ | refine uI rfl (i) rfl (tys_at hx) rfl ?_ | refine uC rfl hq ?_)
        · rw [hT, hinv]; simp_all
        · refine AK.again (ih (i + 1) ⟨lt_of_get hx, ?_⟩ (by have := lt_of_get hx; omega)) ⟨.inl (succ64 (by omega)), .inl rfl, .inl rfl, trivial⟩ trivial trivial rfl rfl rfl
          simp_all
      · have hc := tys_end he
        repeat' (first | refine st ?_ | (refine AK.condS rfl (fun h => ?_) (fun h => ?_) <;> first | (cases h; done) | rw [h] | skip) | refine uQ hf rfl rfl ?_)
        rw [hT, hinv, he, List.drop_length]; rfl
termination_by t => SizeOf.sizeOf t
decreasing_by
  have := List.sizeOf_lt_of_mem hx
  simp at this ⊢; omega

set_option maxHeartbeats 1000000 in
theorem without_calls (lam : Bool) (q : List Int) (hq0 : q.length ≤ 1099511627776) : ∀ (t : Ty), tySize t ≤ 1099511627776 → QCalls Try.prog Try.X 107 [encTy t, .bool lam, .sl 1 (intRows q)] (.bool (rWout lam q t))
  | .mk T args, ht => by
    simp only [tySize] at ht
    have hl1 := tysSize_len args
    have hin : ∀ x ∈ args, QCalls Try.prog Try.X 107 [encTy x, .bool lam, .sl 1 (intRows q)] (.bool (rWout lam q x)) := fun x hx => without_calls lam q hq0 x (by have := tysSize_mem hx; omega)
    refine QCalls.of Try.func107 rfl (fun args w => Try.call107 args w) (Nat.le_of_ble_eq_true rfl) [(0, .c (encTy (.mk T args))), (1, .c (.bool lam)), (2, .c (.sl 1 (intRows q)))] rfl fun β hβ => ?_; have hf := Try.func107
    repeat' (first | refine st ?_ | (refine AK.condS rfl (fun h => ?_) (fun h => ?_) <;> first | (cases h; done) | rw [h] | skip) | refine uQ hf rfl rfl ?_ | ((first | refine AOps.splitT rfl rfl rfl asm (fun h => ?_) | refine AOps.splitF rfl rfl rfl asm (fun h => ?_) | refine AOps.split rfl rfl rfl (fun h => ?_) (fun h => ?_)) <;> (fail_if_success (cases h; done)) <;> rw [h]))
    refine AK.loopE (α := Nat) (fun i => i ≤ q.length ∧ q.contains T = (q.drop i).contains T) (fun i => q.length - i)
      (fun i => [(13, .c (.int .i64 i)), (12, .c (.int .i64 (intRows q).length)), (11, .c (.sl 1 (intRows q))), (1, .c (.bool lam)), (2, .c (.sl 1 (intRows q))), (3, .ptr 3 0)])
      (fun _ => [(3, [.c (.int .i64 T), .c (.sl 2 (encTys args))])]) (fun _ => []) [3] 0
      ⟨by omega, rfl⟩ ⟨.inl rfl, .inl rfl, .inl rfl, .inl rfl, .inl rfl, .inl rfl, trivial⟩ ⟨rfl, trivial⟩ trivial rfl rfl rfl ?_
    rintro i ⟨hi, hinv⟩ ih
    rcases get_or q i hi with ⟨x, hx, hm⟩ | he
    · have hc := ints_lt hx
      rw [drop_at hx] at hinv
      repeat' (first | refine st ?_ | (refine AK.condS rfl (fun h => ?_) (fun h => ?_) <;> first | (cases h; done) | rw [h] | skip) | refine uQ hf rfl rfl ?_ | refine uI rfl (i) rfl (ints_at hx) rfl ?_ | ((first | refine AOps.splitT rfl rfl rfl asm (fun h => ?_) | refine AOps.splitF rfl rfl rfl asm (fun h => ?_) | refine AOps.split rfl rfl rfl (fun h => ?_) (fun h => ?_)) <;> (fail_if_success (cases h; done)) <;> rw [h]))
      · have : q.contains T = true := by rw [hinv]; simp_all
        simp only [rWout, this, if_true]
      · refine AK.again (ih (i + 1) ⟨lt_of_get hx, ?_⟩ (by have := lt_of_get hx; omega)) ⟨.inl (succ64 (by have := lt_of_get hx; omega)), .inl rfl, .inl rfl, .inl rfl, .inl rfl, .inl rfl, trivial⟩ ⟨rfl, trivial⟩ trivial rfl rfl rfl
        rw [hinv]; simp_all
    · have hc := ints_end he
      have hno : q.contains T = false := by rw [hinv, he, List.drop_length]; rfl
      clear ih
      repeat' (first | refine st ?_ | (refine AK.condS rfl (fun h => ?_) (fun h => ?_) <;> first | (cases h; done) | rw [h] | skip) | refine uQ hf rfl rfl ?_ | ((first | refine AOps.splitT rfl rfl rfl asm (fun h => ?_) | refine AOps.splitF rfl rfl rfl asm (fun h => ?_) | refine AOps.split rfl rfl rfl (fun h => ?_) (fun h => ?_)) <;> (fail_if_success (cases h; done)) <;> rw [h]))
      · have : T = 14 ∧ lam = false := by simp_all
        simp only [rWout, hno, if_pos this, Bool.false_eq_true, if_false]
      all_goals
        have hT : rWout lam q (.mk T args) = rWouts lam q args := by
          have : ¬ (T = 14 ∧ lam = false) := by simp_all
          simp only [rWout, hno, if_neg this, Bool.false_eq_true, if_false]
        refine AK.loopE (α := Nat) (fun i => i ≤ args.length ∧ rWouts lam q args = rWouts lam q (args.drop i)) (fun i => args.length - i)
          (fun i => [(32, .c (.int .i64 i)), (31, .c (.int .i64 (encTys args).length)), (30, .c (.sl 2 (encTys args))), (1, .c (.bool lam)), (2, .c (.sl 1 (intRows q)))]) (fun _ => []) (fun _ => []) [] 0
          ⟨by omega, rfl⟩ ⟨.inl rfl, .inl rfl, .inl rfl, .inl rfl, .inl rfl, trivial⟩ trivial trivial rfl rfl rfl ?_
        rintro i' ⟨hi', hinv'⟩ ih'
        rcases get_or args i' hi' with ⟨x, hx, hm⟩ | he'
        · have hc := tys_lt hx
          have hq := hin x hm
          rw [drop_at hx] at hinv'
          simp only [rWouts] at hinv'
          obtain ⟨U, us⟩ := x
          repeat' (first | refine st ?_ | (refine AK.condS rfl (fun h => ?_) (fun h => ?_) <;> first | (cases h; done) | rw [h] | skip) | refine uQ hf rfl rfl ?_ | refine uI rfl (i') rfl (tys_at hx) rfl ?_ | refine uC rfl hq ?_ | ((first | refine AOps.splitT rfl rfl rfl asm (fun h => ?_) | refine AOps.splitF rfl rfl rfl asm (fun h => ?_) | refine AOps.split rfl rfl rfl (fun h => ?_) (fun h => ?_)) <;> (fail_if_success (cases h; done)) <;> rw [h]))
          · rw [hT, hinv']; simp_all
          · refine AK.again (ih' (i' + 1) ⟨lt_of_get hx, ?_⟩ (by have := lt_of_get hx; omega)) ⟨.inl (succ64 (by omega)), .inl rfl, .inl rfl, .inl rfl, .inl rfl, trivial⟩ trivial trivial rfl rfl rfl
            simp_all
        · have hc := tys_end he'
          repeat' (first | refine st ?_ | (refine AK.condS rfl (fun h => ?_) (fun h => ?_) <;> first | (cases h; done) | rw [h] | skip) | refine uQ hf rfl rfl ?_ | ((first | refine AOps.splitT rfl rfl rfl asm (fun h => ?_) | refine AOps.splitF rfl rfl rfl asm (fun h => ?_) | refine AOps.split rfl rfl rfl (fun h => ?_) (fun h => ?_)) <;> (fail_if_success (cases h; done)) <;> rw [h]))
          rw [hT, hinv', he', List.drop_length]; rfl
termination_by t => SizeOf.sizeOf t
decreasing_by
  have := List.sizeOf_lt_of_mem hx
  simp at this ⊢; omega

theorem rComparable_calls (t : Ty) (ht : tySize t ≤ 1099511627776) : QCalls Try.prog Try.X 58 [encTy t] (.bool (tComp t)) := by
  have hq := realType_calls t ht
  have hw := without_calls true [8, 10, 13, 14, 15] (by simp) t ht
  rw [← rComp_eq]
  obtain ⟨T, args⟩ := t
  refine QCalls.of Try.func58 rfl (fun args w => Try.call58 args w) (Nat.le_of_ble_eq_true rfl) [(0, .c (encTy (.mk T args)))] rfl fun β hβ => ?_; have hf := Try.func58
  repeat' (first | refine st ?_ | refine uQ hf rfl rfl ?_ | refine uC rfl hq ?_ | refine uC rfl hw ?_ | ((first | refine AOps.splitT rfl rfl rfl asm (fun h => ?_) | refine AOps.splitF rfl rfl rfl asm (fun h => ?_) | refine AOps.split rfl rfl rfl (fun h => ?_) (fun h => ?_)) <;> (fail_if_success (cases h; done)) <;> rw [h]))
  all_goals simp_all
theorem rPacked_calls (t : Ty) (ht : tySize t ≤ 1099511627776) : QCalls Try.prog Try.X 60 [encTy t] (.bool (tPack t)) := by
  have hw := without_calls true [8, 14, 15] (by simp) t ht
  rw [← rPack_eq]
  obtain ⟨T, args⟩ := t
  refine QCalls.of Try.func60 rfl (fun args w => Try.call60 args w) (Nat.le_of_ble_eq_true rfl) [(0, .c (encTy (.mk T args)))] rfl fun β hβ => ?_; have hf := Try.func60
  exact dq
end Go.Proofs

-- WIDE
-- OLDASM
set_option linter.unusedVariables false
set_option linter.unusedSimpArgs false
namespace Go.Proofs
open Go.Abs
theorem headComp_calls {args : List Ty} {x : Ty} (h : args[0]? = some x) : headComp args = tComp x := by
  cases args with
  | nil => simp at h
  | cons y l => simp at h; subst h; rfl
theorem kGood_eq (T : Int) (args : List Ty) (d n : Int) (hk : ¬ (d > 24 ∨ n + 1 > 300 ∨ arity T ≠ args.length)) :
    kGood (.mk T args) d n = ((kGoods args (d + 1) (n + 1)).1 && (if T = 13 ∨ T = 15 then headComp args else true), (kGoods args (d + 1) (n + 1)).2) := by
  simp only [kGood, if_neg hk]
  rcases kGoods args (d + 1) (n + 1) with ⟨b, m⟩
  cases b <;> rfl
theorem kGoods_nil (d m : Int) : kGoods [] d m = (true, m) := rfl
theorem kGood_no (T : Int) (args : List Ty) (d n : Int) (hk : d > 24 ∨ n + 1 > 300 ∨ arity T ≠ args.length) : kGood (.mk T args) d n = (false, n + 1) := by
  simp only [kGood, if_pos hk]
theorem kGoods_cons (t : Ty) (l : List Ty) (d n : Int) : kGoods (t :: l) d n = if (kGood t d n).1 then kGoods l d (kGood t d n).2 else (false, (kGood t d n).2) := by
  simp only [kGoods]
  rcases kGood t d n with ⟨b, m⟩
  cases b <;> rfl

attribute [local irreducible] AK AOps QCalls ECalls kGood kGoods headComp tComp
set_option maxHeartbeats 0 in
theorem good_calls : ∀ (t : Ty) (d n : Int), tySize t ≤ 1048577 → 0 ≤ d → d ≤ 1099511627776 - tySize t → 0 ≤ n → n ≤ 300 →
    ECalls Try.prog Try.X 94 [.v (.c (encTy t)), .v (.c (.int .i64 d)), .box [.c (.int .i64 n)]] [.c (.bool (kGood t d n).1)] [(2, [.c (.int .i64 (kGood t d n).2)])]
  | .mk T args => by
    intro d n ht hd0 hd hn0 hn
    simp only [tySize] at ht hd
    have hl1 := tysSize_len args
    have hin : ∀ x ∈ args, ∀ m : Int, 0 ≤ m → m ≤ 300 → ECalls Try.prog Try.X 94 [.v (.c (encTy x)), .v (.c (.int .i64 (IntKind.i64.wrap (d + 1)))), .box [.c (.int .i64 m)]] [.c (.bool (kGood x (d + 1) m).1)] [(2, [.c (.int .i64 (kGood x (d + 1) m).2)])] := by
      intro x hx m h0 h1
      have := tysSize_mem hx
      rw [w64 (by omega) (by omega)]
      exact good_calls x (d + 1) m (by omega) (by omega) (by omega) h0 h1
    have e1 : IntKind.i64.wrap (n + 1) = n + 1 := w64 (by omega) (by omega)
    refine ECalls.ofL Try.func94 rfl (fun args w => Try.call94 args w) (Nat.le_of_ble_eq_true rfl) [(0, .c (encTy (.mk T args))), (1, .c (.int .i64 d)), (2, .ptr 1002000 0)] [(1002000, [.c (.int .i64 n)])] [] [1002000] rfl rfl fun β => ?_; have hf := Try.func94
    repeat' (first | refine sto ?_ | (refine AK.condS rfl (fun h => ?_) (fun h => ?_) <;> first | (cases h; done) | rw [h] | skip) | refine AK.retE Try.hX hf rfl rfl rfl rfl ?_ (by with_reducible rfl) | refine AK.retE Try.hX hf rfl rfl rfl rfl ?_ ?_ | refine AK.endE Try.hX hf rfl rfl rfl rfl ?_ (by with_reducible rfl) | refine AK.endE Try.hX hf rfl rfl rfl rfl ?_ ?_ | refine uC rfl (arity_calls T) ?_ | ((first | refine AOps.splitT rfl rfl rfl asmo (fun h => ?_) | refine AOps.splitF rfl rfl rfl asmo (fun h => ?_) | refine AOps.split rfl rfl rfl (fun h => ?_) (fun h => ?_)) <;> (fail_if_success (cases h; done)) <;> rw [h]))
    rotate_left 6
    · refine AK.loopE (α := Nat × Int) (fun z => z.1 ≤ args.length ∧ kGoods args (d + 1) (n + 1) = kGoods (args.drop z.1) (d + 1) z.2 ∧ 0 ≤ z.2 ∧ z.2 ≤ 300) (fun z => args.length - z.1)
        (fun z => [(34, .c (.int .i64 z.1)), (33, .c (.int .i64 (encTys args).length)), (32, .c (.sl 2 (encTys args))), (1, .c (.int .i64 d)), (2, .ptr 1002000 0), (3, .ptr 3 0)])
        (fun z => [(3, [.c (.int .i64 T), .c (.sl 2 (encTys args))]), (1002000, [.c (.int .i64 z.2)])]) (fun _ => []) [3, 1002000] (0, n + 1)
        ⟨by omega, rfl, by omega, ?_⟩ ⟨.inl rfl, .inl rfl, .inl rfl, .inl rfl, .inl rfl, .inl rfl, trivial⟩ ⟨rfl, congrArg (fun k => some [AV.c (CV.int .i64 k)]) e1, trivial⟩ trivial rfl rfl rfl ?_
      · simp_all
      rintro ⟨i, m⟩ ⟨hi, hinv, hm0, hm1⟩ ih
      simp only at hi hinv hm0 hm1
      have hk : ¬ (d > 24 ∨ n + 1 > 300 ∨ arity T ≠ args.length) := by
        rename_i g1 g2
        simp only [cond_false, e1, decide_eq_false_iff_not, bne_eq_false_iff_eq, encTys_length] at g1 g2 h
        rintro (hh | hh | hh)
        · omega
        · omega
        · exact hh h
      have hK := kGood_eq T args d n hk
      rcases get_or args i hi with ⟨x, hx, hmem⟩ | he
      · have hc := tys_lt hx
        have hq := hin x hmem m hm0 hm1
        have hle := kGood_le x (d + 1) m hm1
        rw [drop_at hx] at hinv
        rw [kGoods_cons] at hinv
        obtain ⟨U, us⟩ := x
        repeat' (first | refine sto ?_ | (refine AK.condS rfl (fun h => ?_) (fun h => ?_) <;> first | (cases h; done) | rw [h] | skip) | refine AK.retE Try.hX hf rfl rfl rfl rfl ?_ (by with_reducible rfl) | refine AK.retE Try.hX hf rfl rfl rfl rfl ?_ ?_ | refine AK.endE Try.hX hf rfl rfl rfl rfl ?_ (by with_reducible rfl) | refine AK.endE Try.hX hf rfl rfl rfl rfl ?_ ?_ | refine uI rfl (i) rfl (tys_at hx) rfl ?_ | refine AOps.calle kn rfl rfl (hq) rfl (by (repeat' (first | exact rfl | exact trivial | refine ⟨_, _, rfl, ?_, ?_⟩ | refine ⟨_, _, _, rfl, rfl, ?_, ?_⟩)); done) rfl rfl rfl rfl rfl rfl rfl rfl rfl rfl rfl rfl rfl rfl ?_ | ((first | refine AOps.splitT rfl rfl rfl asmo (fun h => ?_) | refine AOps.splitF rfl rfl rfl asmo (fun h => ?_) | refine AOps.split rfl rfl rfl (fun h => ?_) (fun h => ?_)) <;> (fail_if_success (cases h; done)) <;> rw [h]))
        · have hf : (kGood (.mk U us) (d + 1) m).1 = false := by simpa using h
          rw [hf] at hinv
          rw [hK, hinv]; rfl
        · have hf : (kGood (.mk U us) (d + 1) m).1 = false := by simpa using h
          rw [hf] at hinv
          rw [hK, hinv]; rfl
        · have hf : (kGood (.mk U us) (d + 1) m).1 = true := by simpa using h
          rw [hf] at hinv
          refine AK.again (ih (i + 1, (kGood (.mk U us) (d + 1) m).2) ⟨lt_of_get hx, hinv, by omega, hle.2.2 hf⟩ (by have := lt_of_get hx; show args.length - (i + 1) < args.length - i; omega))
            ⟨.inl (succ64 (by have := lt_of_get hx; omega)), .inl rfl, .inl rfl, .inl rfl, .inl rfl, .inl rfl, trivial⟩ ⟨rfl, rfl, trivial⟩ trivial rfl rfl rfl
      · have hc := tys_end he
        have hG : kGoods args (d + 1) (n + 1) = (true, m) := by rw [hinv, he, List.drop_length, kGoods_nil]
        rw [hG] at hK
        by_cases hmt : T = 13 ∨ T = 15
        · obtain ⟨x0, hx0⟩ : ∃ x, args[0]? = some x := by
            have h1 : arity T ≥ 1 := by rcases hmt with rfl | rfl <;> decide
            have h2 : 0 < args.length := by simp only [not_or, ne_eq, Decidable.not_not] at hk; omega
            exact ⟨args[0], by simp [h2]⟩
          have hcq := Comparable_calls x0 (by have := tysSize_mem (List.mem_of_getElem? hx0); omega)
          rw [if_pos hmt, headComp_calls hx0] at hK
          clear ih hin
          obtain ⟨U, us⟩ := x0
          repeat' (first | refine sto ?_ | (refine AK.condS rfl (fun h => ?_) (fun h => ?_) <;> first | (cases h; done) | rw [h] | skip) | refine AK.retE Try.hX hf rfl rfl rfl rfl ?_ (by with_reducible rfl) | refine AK.retE Try.hX hf rfl rfl rfl rfl ?_ ?_ | refine AK.endE Try.hX hf rfl rfl rfl rfl ?_ (by with_reducible rfl) | refine AK.endE Try.hX hf rfl rfl rfl rfl ?_ ?_ | refine uI rfl (0) rfl (tys_at hx0) rfl ?_ | refine uC rfl hcq ?_ | ((first | refine AOps.splitT rfl rfl rfl asmo (fun h => ?_) | refine AOps.splitF rfl rfl rfl asmo (fun h => ?_) | refine AOps.split rfl rfl rfl (fun h => ?_) (fun h => ?_)) <;> (fail_if_success (cases h; done)) <;> rw [h]))
          all_goals first
            | (show (_ : List LV) = _; rw [hK]; first | rfl | (simp; done) | (exfalso; simp_all; done))
            | (show (_ : List (Nat × List LV)) = _; rw [hK]; done)
            | (show (_ : List (Nat × List LV)) = _; rw [hK]; rfl)
            | (exfalso; clear hf hK hinv; simp_all; done)
        · rw [if_neg hmt] at hK
          clear ih hin
          repeat' (first | refine sto ?_ | (refine AK.condS rfl (fun h => ?_) (fun h => ?_) <;> first | (cases h; done) | rw [h] | skip) | refine AK.retE Try.hX hf rfl rfl rfl rfl ?_ (by with_reducible rfl) | refine AK.retE Try.hX hf rfl rfl rfl rfl ?_ ?_ | refine AK.endE Try.hX hf rfl rfl rfl rfl ?_ (by with_reducible rfl) | refine AK.endE Try.hX hf rfl rfl rfl rfl ?_ ?_ | ((first | refine AOps.splitT rfl rfl rfl asmo (fun h => ?_) | refine AOps.splitF rfl rfl rfl asmo (fun h => ?_) | refine AOps.split rfl rfl rfl (fun h => ?_) (fun h => ?_)) <;> (fail_if_success (cases h; done)) <;> rw [h]))
          all_goals first
            | (show (_ : List LV) = _; rw [hK]; first | rfl | (simp; done) | (exfalso; simp_all; done))
            | (show (_ : List (Nat × List LV)) = _; rw [hK]; done)
            | (show (_ : List (Nat × List LV)) = _; rw [hK]; rfl)
            | (exfalso; clear hf hK hinv; simp_all; done)
    all_goals
      have hno : d > 24 ∨ n + 1 > 300 ∨ arity T ≠ args.length := by
        clear hin hf
        first
        | (left; simp_all; done)
        | (right; left; simp_all; done)
        | (right; right; simp_all [encTys_length]; done)
      first
      | (show (_ : List LV) = _; rw [kGood_no T args d n hno])
      | (show (_ : List (Nat × List LV)) = _; rw [kGood_no T args d n hno, e1])
termination_by t => SizeOf.sizeOf t
decreasing_by
  have := List.sizeOf_lt_of_mem hx
  simp at this ⊢; omega
end Go.Proofs

-- WIDE
-- OLDASM
set_option linter.unusedVariables false
set_option linter.unusedSimpArgs false
namespace Go.Proofs
open Go.Abs
theorem nds_at {l : List Nd} {i : Nat} {x : Nd} (h : l[i]? = some x) : (encNds l)[i]? = some (encNd x) := by rw [encNds_get, h]; rfl
theorem nds_lt {l : List Nd} {i : Nat} {x : Nd} (h : l[i]? = some x) : decide (((i : Nat) : Int) < (((encNds l).length : Nat) : Int)) = true := dec_lt (by have := lt_of_get h; rw [encNds_length]; omega)
theorem nds_end {l : List Nd} {i : Nat} (h : i = l.length) : decide (((i : Nat) : Int) < (((encNds l).length : Nat) : Int)) = false := dec_ge (by rw [encNds_length]; omega)
theorem encNds_append : ∀ (a : List Nd) (b : List Nd), encNds (a ++ b) = encNds a ++ encNds b
  | [], b => rfl
  | t :: a, b => by simp [encNds, encNds_append a b]

theorem succ64' {i : Nat} (h : i < 1099511627776) : AV.c (CV.int .i64 (IntKind.i64.wrap ((i : Int) + 1))) = AV.c (CV.int .i64 ((i + 1 : Nat) : Int)) := by
  rw [w64 (by omega) (by omega)]; rfl

/-- The type that is handed back. -/
def optTy : Option Ty → Ty
  | some t => t
  | none => .mk 0 []

attribute [local irreducible] AK AOps QCalls ECalls kGood kGoods headComp tComp kParse kParses

theorem Good_calls (t : Ty) (ht : tySize t ≤ 1048577) : QCalls Try.prog Try.X 47 [encTy t] (.bool (tGood t)) := by
  have hq := good_calls t 1 0 ht (by omega) (by omega) (by omega) (by omega)
  obtain ⟨T, args⟩ := t
  refine QCalls.of Try.func47 rfl (fun args w => Try.call47 args w) (Nat.le_of_ble_eq_true rfl) [(0, .c (encTy (.mk T args)))] rfl fun β hβ => ?_; have hf := Try.func47
  repeat' (first | refine sto ?_ | refine uQ hf rfl rfl ?_ | refine AOps.calle kn rfl rfl (hq) rfl (by (repeat' (first | exact rfl | exact trivial | refine ⟨_, _, rfl, ?_, ?_⟩ | refine ⟨_, _, _, rfl, rfl, ?_, ?_⟩)); done) rfl rfl rfl rfl rfl rfl rfl rfl rfl rfl rfl rfl rfl rfl ?_)
  rfl

end Go.Proofs

-- WIDE
-- OLDASM
set_option linter.unusedVariables false
set_option linter.unusedSimpArgs false
namespace Go.Proofs
open Go.Abs
attribute [local irreducible] AK AOps QCalls ECalls

/-- Two rows are alike, one by one. -/
def eqBy {α : Type} (q : α → α → Bool) : List α → List α → Bool
  | [], [] => true
  | x :: l, y :: r => q x y && eqBy q l r
  | _, _ => false
theorem eqBy_len {α : Type} (q : α → α → Bool) : ∀ (l r : List α), l.length ≠ r.length → eqBy q l r = false
  | [], [], h => by simp at h
  | [], _ :: _, _ => rfl
  | _ :: _, [], _ => rfl
  | x :: l, y :: r, h => by simp [eqBy, eqBy_len q l r (by simpa using h)]
theorem eqBy_tys : ∀ (l r : List Ty), eqBy tySame l r = tysSame l r
  | [], [] => rfl
  | [], _ :: _ => rfl
  | _ :: _, [] => rfl
  | x :: l, y :: r => by simp [eqBy, tysSame, eqBy_tys l r]
theorem eqBy_end {α : Type} (q : α → α → Bool) {l r : List α} {i : Nat} (h : l.length = r.length) (hi : i = l.length) : eqBy q (l.drop i) (r.drop i) = true := by
  subst hi; rw [List.drop_length, h, List.drop_length]; rfl

set_option maxHeartbeats 0 in
theorem eqFuncTy_calls (l r : List Ty) (q : Ty → Ty → Bool) (f : FuncId) (caps : List CV) (hp : ∀ x ∈ l, ∀ y ∈ r, QCalls Try.prog Try.X f (encTy x :: encTy y :: caps) (.bool (q x y))) (hlen : l.length ≤ 1099511627776) :
    QCalls Try.prog Try.X 105 [.sl 2 (encTys l), .sl 2 (encTys r), .clo f caps] (.bool (eqBy q l r)) := by
  by_cases hl : l.length = r.length
  · have hne : ((((encTys l).length : Nat) : Int) != (((encTys r).length : Nat) : Int)) = false := by rw [encTys_length, encTys_length, hl]; simp
    refine QCalls.of Try.func105 rfl (fun args w => Try.call105 args w) (Nat.le_of_ble_eq_true rfl) [(0, .c (.sl 2 (encTys l))), (1, .c (.sl 2 (encTys r))), (2, .c (.clo f caps))] rfl fun β hβ => ?_; have hf := Try.func105
    repeat' (first | refine sto ?_ | (refine AK.condS rfl (fun h => ?_) (fun h => ?_) <;> first | (cases h; done) | rw [h] | skip) | refine uQ hf rfl rfl ?_)
    refine AK.loopE (α := Nat) (fun i => i ≤ l.length ∧ eqBy q l r = eqBy q (l.drop i) (r.drop i)) (fun i => l.length - i)
      (fun i => [(17, .c (.int .i64 i)), (16, .c (.int .i64 (encTys l).length)), (15, .c (.sl 2 (encTys l))), (1, .c (.sl 2 (encTys r))), (2, .c (.clo f caps))]) (fun _ => []) (fun _ => []) [] 0
      ⟨by omega, rfl⟩ ⟨.inl rfl, .inl rfl, .inl rfl, .inl rfl, .inl rfl, trivial⟩ trivial trivial rfl rfl rfl ?_
    rintro i ⟨hi, hinv⟩ ih
    rcases get_or l i hi with ⟨x, hx, hm⟩ | he
    · have hc := tys_lt hx
      obtain ⟨y, hy⟩ : ∃ y, r[i]? = some y := ⟨r[i]'(by have := lt_of_get hx; omega), by simp⟩
      have hq := hp x hm y (List.mem_of_getElem? hy)
      rw [drop_at hx, drop_at hy] at hinv
      simp only [eqBy] at hinv
      obtain ⟨T, args⟩ := x
      obtain ⟨U, us⟩ := y
      repeat' (first | refine sto ?_ | (refine AK.condS rfl (fun h => ?_) (fun h => ?_) <;> first | (cases h; done) | rw [h] | skip) | refine uQ hf rfl rfl ?_ | refine uI rfl (i) rfl (tys_at hx) rfl ?_ | refine uI rfl (i) rfl (tys_at hy) rfl ?_ | refine uC rfl hq ?_)
      · rw [hinv]; simp_all
      · refine AK.again (ih (i + 1) ⟨lt_of_get hx, ?_⟩ (by have := lt_of_get hx; omega)) ⟨.inl (succ64 (by have := lt_of_get hx; omega)), .inl rfl, .inl rfl, .inl rfl, .inl rfl, trivial⟩ trivial trivial rfl rfl rfl
        simp_all
    · have hc := tys_end he
      repeat' (first | refine sto ?_ | (refine AK.condS rfl (fun h => ?_) (fun h => ?_) <;> first | (cases h; done) | rw [h] | skip) | refine uQ hf rfl rfl ?_)
      rw [hinv, eqBy_end q hl he]
  · have hne : ((((encTys l).length : Nat) : Int) != (((encTys r).length : Nat) : Int)) = true := by rw [encTys_length, encTys_length]; simp; omega
    rw [eqBy_len q l r hl]
    refine QCalls.of Try.func105 rfl (fun args w => Try.call105 args w) (Nat.le_of_ble_eq_true rfl) [(0, .c (.sl 2 (encTys l))), (1, .c (.sl 2 (encTys r))), (2, .c (.clo f caps))] rfl fun β hβ => ?_; have hf := Try.func105
    repeat' (first | refine sto ?_ | (refine AK.condS rfl (fun h => ?_) (fun h => ?_) <;> first | (cases h; done) | rw [h] | skip) | refine uQ hf rfl rfl ?_)
    all_goals rfl

set_option maxHeartbeats 0 in
theorem Same_calls : ∀ (t u : Ty), tySize t ≤ 1099511627776 → QCalls Try.prog Try.X 57 [encTy t, encTy u] (.bool (tySame t u))
  | .mk T args, .mk U us, ht => by
    simp only [tySize] at ht
    have hl1 := tysSize_len args
    have hq := eqFuncTy_calls args us tySame 57 [] (fun x hx y _ => Same_calls x y (by have := tysSize_mem hx; omega)) (by omega)
    rw [eqBy_tys] at hq
    refine QCalls.of Try.func57 rfl (fun args w => Try.call57 args w) (Nat.le_of_ble_eq_true rfl) [(0, .c (encTy (.mk T args))), (1, .c (encTy (.mk U us)))] rfl fun β hβ => ?_; have hf := Try.func57
    repeat' (first | refine sto ?_ | refine uQ hf rfl rfl ?_ | refine uC rfl hq ?_ | ((first | refine AOps.splitT rfl rfl rfl asmo (fun h => ?_) | refine AOps.splitF rfl rfl rfl asmo (fun h => ?_) | refine AOps.split rfl rfl rfl (fun h => ?_) (fun h => ?_)) <;> (fail_if_success (cases h; done)) <;> rw [h]))
    all_goals simp_all [tySame]
termination_by t => SizeOf.sizeOf t
decreasing_by
  have := List.sizeOf_lt_of_mem hx
  simp at this ⊢; omega

set_option maxHeartbeats 0 in
theorem SameType_calls : ∀ (t u : Ty), tySize t ≤ 1099511627776 → QCalls Try.prog Try.X 30 [encTy t, encTy u] (.bool (tySame t u))
  | .mk T args, .mk U us, ht => by
    simp only [tySize] at ht
    have hl1 := tysSize_len args
    have hin : ∀ x ∈ args, ∀ y, QCalls Try.prog Try.X 30 [encTy x, encTy y] (.bool (tySame x y)) := fun x hx y => SameType_calls x y (by have := tysSize_mem hx; omega)
    by_cases hl : (T = U) ∧ args.length = us.length
    · have hT : tySame (.mk T args) (.mk U us) = tysSame args us := by simp [tySame, hl]
      have hne : ((((encTys args).length : Nat) : Int) != (((encTys us).length : Nat) : Int)) = false := by rw [encTys_length, encTys_length, hl.2]; simp
      obtain ⟨rfl, hlen⟩ := hl
      rw [hT]
      clear hT
      refine QCalls.of Try.func30 rfl (fun args w => Try.call30 args w) (Nat.le_of_ble_eq_true rfl) [(0, .c (encTy (.mk T args))), (1, .c (encTy (.mk T us)))] rfl fun β hβ => ?_; have hf := Try.func30
      repeat' (first | refine sto ?_ | (refine AK.condS rfl (fun h => ?_) (fun h => ?_) <;> first | (cases h; done) | rw [h] | skip) | refine uQ hf rfl rfl ?_ | ((first | refine AOps.splitT rfl rfl rfl asmo (fun h => ?_) | refine AOps.splitF rfl rfl rfl asmo (fun h => ?_) | refine AOps.split rfl rfl rfl (fun h => ?_) (fun h => ?_)) <;> (fail_if_success (cases h; done)) <;> rw [h]))
      all_goals first | (exfalso; simp_all; done) | skip
      refine AK.loopE (α := Nat) (fun i => i ≤ args.length ∧ tysSame args us = tysSame (args.drop i) (us.drop i)) (fun i => args.length - i)
        (fun i => [(23, .c (.int .i64 i)), (22, .c (.int .i64 (encTys args).length)), (2, .ptr 2 0), (3, .ptr 3 0)])
        (fun _ => [(2, [.c (.int .i64 T), .c (.sl 2 (encTys args))]), (3, [.c (.int .i64 T), .c (.sl 2 (encTys us))])]) (fun _ => []) [2, 3] 0
        ⟨by omega, rfl⟩ ⟨.inl rfl, .inl rfl, .inl rfl, .inl rfl, trivial⟩ ⟨rfl, rfl, trivial⟩ trivial rfl rfl rfl ?_
      rintro i ⟨hi, hinv⟩ ih
      rcases get_or args i hi with ⟨x, hx, hm⟩ | he
      · have hc := tys_lt hx
        obtain ⟨y, hy⟩ : ∃ y, us[i]? = some y := ⟨us[i]'(by have := lt_of_get hx; omega), by simp⟩
        have hq := hin x hm y
        rw [drop_at hx, drop_at hy] at hinv
        simp only [tysSame] at hinv
        obtain ⟨W, ws⟩ := x
        obtain ⟨V, vs⟩ := y
        repeat' (first | refine sto ?_ | (refine AK.condS rfl (fun h => ?_) (fun h => ?_) <;> first | (cases h; done) | rw [h] | skip) | refine uQ hf rfl rfl ?_ | refine uI rfl (i) rfl (tys_at hx) rfl ?_ | refine uI rfl (i) rfl (tys_at hy) rfl ?_ | refine uC rfl hq ?_ | ((first | refine AOps.splitT rfl rfl rfl asmo (fun h => ?_) | refine AOps.splitF rfl rfl rfl asmo (fun h => ?_) | refine AOps.split rfl rfl rfl (fun h => ?_) (fun h => ?_)) <;> (fail_if_success (cases h; done)) <;> rw [h]))
        · rw [hinv]; simp_all
        · refine AK.again (ih (i + 1) ⟨lt_of_get hx, ?_⟩ (by have := lt_of_get hx; omega)) ⟨.inl (succ64 (by have := lt_of_get hx; omega)), .inl rfl, .inl rfl, .inl rfl, trivial⟩ ⟨rfl, rfl, trivial⟩ trivial rfl rfl rfl
          simp_all
      · have hc := tys_end he
        clear ih
        repeat' (first | refine sto ?_ | (refine AK.condS rfl (fun h => ?_) (fun h => ?_) <;> first | (cases h; done) | rw [h] | skip) | refine uQ hf rfl rfl ?_ | ((first | refine AOps.splitT rfl rfl rfl asmo (fun h => ?_) | refine AOps.splitF rfl rfl rfl asmo (fun h => ?_) | refine AOps.split rfl rfl rfl (fun h => ?_) (fun h => ?_)) <;> (fail_if_success (cases h; done)) <;> rw [h]))
        rw [hinv, he, List.drop_length, hlen, List.drop_length]; rfl
    · have hT : tySame (.mk T args) (.mk U us) = false := by
        by_cases hh : (T = U)
        · have : args.length ≠ us.length := fun h => hl ⟨hh, h⟩
          simp [tySame, tysSame_len _ _ this]
        · simp only [tySame]; simp [hh]
      rw [hT]
      refine QCalls.of Try.func30 rfl (fun args w => Try.call30 args w) (Nat.le_of_ble_eq_true rfl) [(0, .c (encTy (.mk T args))), (1, .c (encTy (.mk U us)))] rfl fun β hβ => ?_; have hf := Try.func30
      repeat' (first | refine sto ?_ | (refine AK.condS rfl (fun h => ?_) (fun h => ?_) <;> first | (cases h; done) | rw [h] | skip) | refine uQ hf rfl rfl ?_ | ((first | refine AOps.splitT rfl rfl rfl asmo (fun h => ?_) | refine AOps.splitF rfl rfl rfl asmo (fun h => ?_) | refine AOps.split rfl rfl rfl (fun h => ?_) (fun h => ?_)) <;> (fail_if_success (cases h; done)) <;> rw [h]))
      all_goals first
        | (show (_ : CV) = _; rfl)
        | (exfalso; clear hin hf hT; apply hl; clear hl; simp_all [encTys_length] <;> omega)
termination_by t => SizeOf.sizeOf t
decreasing_by
  have := List.sizeOf_lt_of_mem hx
  simp at this ⊢; omega

set_option maxHeartbeats 0 in
theorem SameNode_calls : ∀ (t u : Nd), ndSize t ≤ 1099511627776 → QCalls Try.prog Try.X 55 [encNd t, encNd u] (.bool (ndSame t u))
  | .mk a1 a2 a3 a4 args, .mk b1 b2 b3 b4 us, ht => by
    simp only [ndSize] at ht
    have hl1 := ndsSize_len args
    have hin : ∀ x ∈ args, ∀ y, QCalls Try.prog Try.X 55 [encNd x, encNd y] (.bool (ndSame x y)) := fun x hx y => SameNode_calls x y (by have := ndsSize_mem hx; omega)
    by_cases hl : (a1 = b1 ∧ a2 = b2 ∧ a3 = b3 ∧ a4 = b4) ∧ args.length = us.length
    · have hT : ndSame (.mk a1 a2 a3 a4 args) (.mk b1 b2 b3 b4 us) = ndsSame args us := by simp [ndSame, hl]
      have hne : ((((encNds args).length : Nat) : Int) != (((encNds us).length : Nat) : Int)) = false := by rw [encNds_length, encNds_length, hl.2]; simp
      obtain ⟨⟨rfl, rfl, rfl, rfl⟩, hlen⟩ := hl
      rw [hT]
      clear hT
      refine QCalls.of Try.func55 rfl (fun args w => Try.call55 args w) (Nat.le_of_ble_eq_true rfl) [(0, .c (encNd (.mk a1 a2 a3 a4 args))), (1, .c (encNd (.mk a1 a2 a3 a4 us)))] rfl fun β hβ => ?_; have hf := Try.func55
      repeat' (first | refine sto ?_ | (refine AK.condS rfl (fun h => ?_) (fun h => ?_) <;> first | (cases h; done) | rw [h] | skip) | refine uQ hf rfl rfl ?_ | ((first | refine AOps.splitT rfl rfl rfl asmo (fun h => ?_) | refine AOps.splitF rfl rfl rfl asmo (fun h => ?_) | refine AOps.split rfl rfl rfl (fun h => ?_) (fun h => ?_)) <;> (fail_if_success (cases h; done)) <;> rw [h]))
      all_goals first | (exfalso; simp_all; done) | skip
      refine AK.loopE (α := Nat) (fun i => i ≤ args.length ∧ ndsSame args us = ndsSame (args.drop i) (us.drop i)) (fun i => args.length - i)
        (fun i => [(44, .c (.int .i64 i)), (43, .c (.int .i64 (encNds args).length)), (2, .ptr 2 0), (3, .ptr 3 0)])
        (fun _ => [(2, [.c (.int .i64 a1), .c (.int .i64 a2), .c (.int .i64 a3), .c (.str a4), .c (.sl 5 (encNds args))]), (3, [.c (.int .i64 a1), .c (.int .i64 a2), .c (.int .i64 a3), .c (.str a4), .c (.sl 5 (encNds us))])]) (fun _ => []) [2, 3] 0
        ⟨by omega, rfl⟩ ⟨.inl rfl, .inl rfl, .inl rfl, .inl rfl, trivial⟩ ⟨rfl, rfl, trivial⟩ trivial rfl rfl rfl ?_
      rintro i ⟨hi, hinv⟩ ih
      rcases get_or args i hi with ⟨x, hx, hm⟩ | he
      · have hc := nds_lt hx
        obtain ⟨y, hy⟩ : ∃ y, us[i]? = some y := ⟨us[i]'(by have := lt_of_get hx; omega), by simp⟩
        have hq := hin x hm y
        rw [drop_at hx, drop_at hy] at hinv
        simp only [ndsSame] at hinv
        obtain ⟨x1, x2, x3, x4, x5⟩ := x
        obtain ⟨y1, y2, y3, y4, y5⟩ := y
        repeat' (first | refine sto ?_ | (refine AK.condS rfl (fun h => ?_) (fun h => ?_) <;> first | (cases h; done) | rw [h] | skip) | refine uQ hf rfl rfl ?_ | refine uI rfl (i) rfl (nds_at hx) rfl ?_ | refine uI rfl (i) rfl (nds_at hy) rfl ?_ | refine uC rfl hq ?_ | ((first | refine AOps.splitT rfl rfl rfl asmo (fun h => ?_) | refine AOps.splitF rfl rfl rfl asmo (fun h => ?_) | refine AOps.split rfl rfl rfl (fun h => ?_) (fun h => ?_)) <;> (fail_if_success (cases h; done)) <;> rw [h]))
        · rw [hinv]; simp_all
        · refine AK.again (ih (i + 1) ⟨lt_of_get hx, ?_⟩ (by have := lt_of_get hx; omega)) ⟨.inl (succ64 (by have := lt_of_get hx; omega)), .inl rfl, .inl rfl, .inl rfl, trivial⟩ ⟨rfl, rfl, trivial⟩ trivial rfl rfl rfl
          simp_all
      · have hc := nds_end he
        clear ih
        repeat' (first | refine sto ?_ | (refine AK.condS rfl (fun h => ?_) (fun h => ?_) <;> first | (cases h; done) | rw [h] | skip) | refine uQ hf rfl rfl ?_ | ((first | refine AOps.splitT rfl rfl rfl asmo (fun h => ?_) | refine AOps.splitF rfl rfl rfl asmo (fun h => ?_) | refine AOps.split rfl rfl rfl (fun h => ?_) (fun h => ?_)) <;> (fail_if_success (cases h; done)) <;> rw [h]))
        rw [hinv, he, List.drop_length, hlen, List.drop_length]; rfl
    · have hT : ndSame (.mk a1 a2 a3 a4 args) (.mk b1 b2 b3 b4 us) = false := by
        by_cases hh : (a1 = b1 ∧ a2 = b2 ∧ a3 = b3 ∧ a4 = b4)
        · have : args.length ≠ us.length := fun h => hl ⟨hh, h⟩
          simp [ndSame, ndsSame_len _ _ this]
        · simp only [ndSame]; simp only [Bool.and_eq_false_iff, beq_eq_false_iff_ne]; by_cases p1 : a1 = b1 <;> by_cases p2 : a2 = b2 <;> by_cases p3 : a3 = b3 <;> by_cases p4 : a4 = b4 <;> simp_all
      rw [hT]
      refine QCalls.of Try.func55 rfl (fun args w => Try.call55 args w) (Nat.le_of_ble_eq_true rfl) [(0, .c (encNd (.mk a1 a2 a3 a4 args))), (1, .c (encNd (.mk b1 b2 b3 b4 us)))] rfl fun β hβ => ?_; have hf := Try.func55
      repeat' (first | refine sto ?_ | (refine AK.condS rfl (fun h => ?_) (fun h => ?_) <;> first | (cases h; done) | rw [h] | skip) | refine uQ hf rfl rfl ?_ | ((first | refine AOps.splitT rfl rfl rfl asmo (fun h => ?_) | refine AOps.splitF rfl rfl rfl asmo (fun h => ?_) | refine AOps.split rfl rfl rfl (fun h => ?_) (fun h => ?_)) <;> (fail_if_success (cases h; done)) <;> rw [h]))
      all_goals first
        | (show (_ : CV) = _; rfl)
        | (exfalso; clear hin hf hT; apply hl; clear hl; simp_all [encNds_length] <;> omega)
termination_by t => SizeOf.sizeOf t
decreasing_by
  have := List.sizeOf_lt_of_mem hx
  simp at this ⊢; omega

end Go.Proofs

set_option linter.unusedVariables false
set_option linter.unusedSimpArgs false
namespace Go.Abs

abbrev maxI : Int := 1152921504606846976

def primP (p : Int) : Bool := decide ((1 ≤ p ∧ p ≤ 15) ∨ (20 ≤ p ∧ p ≤ 28) ∨ (40 ≤ p ∧ p ≤ 95))

/-- What is wrong with a node by itself, at a depth. -/
def wrong1 (kind n p : Int) (s : List UInt8) (k : Nat) (d : Int) : Int :=
  if d > 24 then 4
  else if kind < 0 ∨ kind > 3 ∨ kind = 2 ∧ primP p = false then 3
  else if kind ≠ 0 ∧ n ≠ 0 ∨ kind ≠ 2 ∧ p ≠ 0 ∨ kind ≠ 1 ∧ s ≠ [] ∨ kind < 2 ∧ 0 < k then 1
  else if n < -maxI ∨ n > maxI then 2
  else if 200 < s.length then 4 else 0

mutual
def wrong : Nd → Int → Int
  | .mk kind n p s args, d => if wrong1 kind n p s args.length d = 0 then wrongs args (d + 1) else wrong1 kind n p s args.length d
def wrongs : List Nd → Int → Int
  | [], _ => 0
  | x :: l, d => if wrong x d = 0 then wrongs l d else wrong x d
end
mutual
def many : Nd → Nat
  | .mk _ _ _ _ args => manys args + 1
def manys : List Nd → Nat
  | [] => 0
  | x :: l => many x + manys l
end
def tGoodN (n : Nd) : Int := if wrong n 1 = 0 then (if 300 < many n then 4 else 0) else wrong n 1

/-- The bytes of a number: the first rest, then what is above it. -/
def putB (c m : Nat) : List UInt8 :=
  if m = 0 then [byteOf (c : Nat)] else byteOf ((c + 128 : Nat) : Int) :: putB (m % 128) (m / 128)
termination_by m
decreasing_by omega

def numB (n : Int) : List UInt8 := putB ((if n < 0 then 64 else 0) + n.natAbs % 64) (n.natAbs / 64)

mutual
/-- A tree's bytes. -/
def bytesN : Nd → List UInt8
  | .mk kind n p s args =>
    if kind = 0 then byteOf kind :: numB n
    else if kind = 1 then byteOf kind :: (numB (s.length : Int) ++ s)
    else if kind = 2 then byteOf kind :: byteOf p :: (numB (args.length : Int) ++ bytesNs args)
    else byteOf kind :: (numB (args.length : Int) ++ bytesNs args)
def bytesNs : List Nd → List UInt8
  | [] => []
  | x :: l => bytesN x ++ bytesNs l
end
def tEncode (n : Nd) : List UInt8 × Int := if tGoodN n = 0 then (bytesN n, 0) else ([], tGoodN n)

-- numbers read
def takeB : List UInt8 → Nat → Nat → Option (Nat × List UInt8)
  | [], _, _ => none
  | b :: s, n, sh => if b.toNat = 0 ∨ sh > 55 then none
    else if b.toNat ≥ 128 then takeB s (n + b.toNat % 128 * 2 ^ sh) (sh + 7) else some (n + b.toNat % 128 * 2 ^ sh, s)
def takeFirst (b : UInt8) (s : List UInt8) : Option (Nat × List UInt8) := if b.toNat ≥ 128 then takeB s (b.toNat % 64) 6 else some (b.toNat % 64, s)
def takeNum : List UInt8 → Option (Int × List UInt8)
  | [] => none
  | b :: s => match takeFirst b s with
    | none => none
    | some (n, r) => if (b.toNat / 64 % 2 = 1 ∧ n = 0) ∨ n > 1152921504606846976 then none else some (if b.toNat / 64 % 2 = 1 then -(n : Int) else n, r)

theorem byteOf_nat (c : Nat) (h : c < 256) : (byteOf (c : Int)).toNat = c := by
  have := byteOf_val (c : Int)
  rw [show IntKind.u8.wrap (c : Int) = c from by simp [IntKind.wrap, IntKind.bits, IntKind.signed]; omega] at this
  omega
theorem byteOf_toNat (b : UInt8) : byteOf ((b.toNat : Nat) : Int) = b := by
  apply UInt8.toNat_inj.1
  rw [byteOf_nat _ b.toNat_lt]

theorem putB_zero (c : Nat) : putB c 0 = [byteOf (c : Nat)] := by rw [putB]; simp
theorem putB_more (c m : Nat) (h : m ≠ 0) : putB c m = byteOf ((c + 128 : Nat) : Int) :: putB (m % 128) (m / 128) := by rw [putB, if_neg h]

theorem takeB_put : ∀ (m c n sh : Nat) (r : List UInt8), c < 128 → c + 128 * m ≠ 0 → sh % 7 = 6 → (c + 128 * m) * 2 ^ sh ≤ 2 ^ 60 → takeB (putB c m ++ r) n sh = some (n + (c + 128 * m) * 2 ^ sh, r) := by
  intro m
  induction m using Nat.strongRecOn with
  | ind m ih =>
    intro c n sh r hc h0 h7 hb
    have hsh : sh ≤ 60 := by
      have h1 : 2 ^ sh ≤ 2 ^ 60 := Nat.le_trans (Nat.le_mul_of_pos_left _ (by omega)) hb
      exact (Nat.pow_le_pow_iff_right (by omega)).1 h1
    by_cases hm : m = 0
    · subst hm
      rw [putB_zero]
      simp only [List.cons_append, List.nil_append, takeB]
      rw [byteOf_nat _ (by omega), if_neg (by omega), if_neg (by omega), Nat.mod_eq_of_lt hc]
      simp
    · rw [putB_more _ _ hm]
      simp only [List.cons_append, takeB]
      rw [byteOf_nat _ (by omega), if_neg (by omega), if_pos (by omega)]
      have e : (c + 128) % 128 = c := by omega
      have hm2 : m % 128 + 128 * (m / 128) = m := by omega
      have hpow : 2 ^ (sh + 7) = 128 * 2 ^ sh := by rw [Nat.pow_add]; omega
      rw [e, ih (m / 128) (by omega) (m % 128) _ _ r (by omega) (by omega) (by omega) (by
        rw [hm2, hpow]
        refine Nat.le_trans ?_ hb
        rw [← Nat.mul_assoc, Nat.mul_comm m 128]
        exact Nat.mul_le_mul_right _ (by omega))]
      rw [hm2, hpow]
      congr 2
      rw [Nat.add_mul, Nat.add_assoc, ← Nat.mul_assoc, Nat.mul_comm m 128]

theorem takeB_some : ∀ (s : List UInt8) (n sh v : Nat) (r : List UInt8), takeB s n sh = some (v, r) → ∃ c m, c < 128 ∧ c + 128 * m ≠ 0 ∧ s = putB c m ++ r ∧ v = n + (c + 128 * m) * 2 ^ sh
  | [], n, sh, v, r, h => by simp [takeB] at h
  | b :: s, n, sh, v, r, h => by
    have hb := b.toNat_lt
    simp only [takeB] at h
    split at h
    · simp at h
    · rename_i h0
      split at h
      · rename_i h1
        obtain ⟨c, m, hc, hcm, hs, hv⟩ := takeB_some s _ _ v r h
        have hpow : 2 ^ (sh + 7) = 128 * 2 ^ sh := by rw [Nat.pow_add]; omega
        refine ⟨b.toNat % 128, c + 128 * m, by omega, by omega, ?_, ?_⟩
        · rw [putB_more _ _ hcm, show (c + 128 * m) % 128 = c from by omega, show (c + 128 * m) / 128 = m from by omega, show b.toNat % 128 + 128 = b.toNat from by omega, byteOf_toNat, hs]
          rfl
        · rw [hv, hpow, Nat.add_mul (b.toNat % 128), Nat.add_assoc, ← Nat.mul_assoc, Nat.mul_comm (c + 128 * m) 128]
      · rename_i h1
        simp at h
        refine ⟨b.toNat, 0, by omega, by omega, ?_, ?_⟩
        · rw [putB_zero, byteOf_toNat, h.2]; rfl
        · rw [← h.1, Nat.mod_eq_of_lt (by omega)]; simp

theorem takeNum_put (n : Int) (r : List UInt8) (h1 : -maxI ≤ n) (h2 : n ≤ maxI) : takeNum (numB n ++ r) = some (n, r) := by
  have hab : n.natAbs ≤ 1152921504606846976 := by unfold maxI at h1 h2; omega
  unfold numB
  generalize hs : (if n < 0 then 64 else 0 : Nat) = sg
  have hsg : (sg = 64 ∧ n < 0) ∨ (sg = 0 ∧ 0 ≤ n) := by split at hs <;> omega
  generalize hx : n.natAbs = a at hab ⊢
  by_cases hm : a / 64 = 0
  · rw [hm, putB_zero]
    simp only [List.cons_append, List.nil_append, takeNum, takeFirst]
    rw [byteOf_nat _ (by omega), if_neg (by omega)]
    simp only
    rw [if_neg (by omega)]
    simp only [Option.some.injEq, Prod.mk.injEq, and_true]
    split <;> omega
  · rw [putB_more _ _ hm]
    simp only [List.cons_append, takeNum, takeFirst]
    rw [byteOf_nat _ (by omega), if_pos (by omega), takeB_put _ _ _ _ _ (by omega) (by omega) (by omega) (by
      rw [show a / 64 % 128 + 128 * (a / 64 / 128) = a / 64 from by omega]; omega)]
    simp only
    rw [show a / 64 % 128 + 128 * (a / 64 / 128) = a / 64 from by omega]
    have e : (sg + a % 64 + 128) % 64 + a / 64 * 2 ^ 6 = a := by omega
    rw [e, if_neg (by omega)]
    simp only [Option.some.injEq, Prod.mk.injEq, and_true]
    split <;> omega

theorem takeNum_some {s : List UInt8} {n : Int} {r : List UInt8} (h : takeNum s = some (n, r)) : s = numB n ++ r ∧ -maxI ≤ n ∧ n ≤ maxI := by
  cases s with
  | nil => simp [takeNum] at h
  | cons b s =>
    have hb := b.toNat_lt
    simp only [takeNum] at h
    split at h
    · simp at h
    · rename_i v r' hv
      split at h
      · simp at h
      · rename_i hn
        simp only [Option.some.injEq, Prod.mk.injEq] at h
        obtain ⟨h1, rfl⟩ := h
        unfold maxI
        unfold takeFirst at hv
        split at hv
        · rename_i hc
          obtain ⟨c, m, hc1, hc2, hs, hv2⟩ := takeB_some _ _ _ _ _ hv
          have hab : n.natAbs = v := by split at h1 <;> omega
          refine ⟨?_, by split at h1 <;> omega, by split at h1 <;> omega⟩
          unfold numB
          rw [hab]
          have e1 : v / 64 = c + 128 * m := by omega
          have e2 : v % 64 = b.toNat % 64 := by omega
          rw [e1, e2, putB_more _ _ hc2, show (c + 128 * m) % 128 = c from by omega, show (c + 128 * m) / 128 = m from by omega, hs]
          have e3 : (if n < 0 then 64 else 0 : Nat) + b.toNat % 64 + 128 = b.toNat := by split at h1 <;> split <;> omega
          rw [e3, byteOf_toNat]; rfl
        · rename_i hc
          simp at hv
          obtain ⟨hv, rfl⟩ := hv
          have hab : n.natAbs = v := by split at h1 <;> omega
          refine ⟨?_, by split at h1 <;> omega, by split at h1 <;> omega⟩
          unfold numB
          rw [hab, show v / 64 = 0 from by omega, putB_zero, show v % 64 = b.toNat % 64 from by omega]
          have e3 : (if n < 0 then 64 else 0 : Nat) + b.toNat % 64 = b.toNat := by split at h1 <;> split <;> omega
          rw [e3, byteOf_toNat]; rfl

theorem takeNum_more {s : List UInt8} {n : Int} {r : List UInt8} (t : List UInt8) (h : takeNum s = some (n, r)) : takeNum (s ++ t) = some (n, r ++ t) := by
  obtain ⟨h1, h2, h3⟩ := takeNum_some h
  rw [h1, List.append_assoc]; exact takeNum_put n (r ++ t) h2 h3

-- trees read
inductive Rd (α : Type) where
  | ok (a : α) (s : List UInt8) (left : Nat)
  | no (e : Int)

def rdRow (f : List UInt8 → Nat → Rd Nd) : Nat → List UInt8 → Nat → Rd (List Nd)
  | 0, s, left => .ok [] s left
  | k + 1, s, left => match f s left with
    | .no e => .no e
    | .ok x s' left' => match rdRow f k s' left' with
      | .no e => .no e
      | .ok l s2 left2 => .ok (x :: l) s2 left2

/-- The arguments of a node. -/
def rdArgs (f : List UInt8 → Nat → Rd Nd) (kind p : Int) (s : List UInt8) (left : Nat) : Rd Nd :=
  match takeNum s with
  | none => .no 1
  | some (k, s') => if k < 0 then .no 1 else match rdRow f k.toNat s' left with
    | .no e => .no e
    | .ok l s2 left2 => .ok (.mk kind 0 p [] l) s2 left2

/-- A node behind its kind. -/
def rdBody (f : List UInt8 → Nat → Rd Nd) (c : Nat) (s : List UInt8) (left : Nat) : Rd Nd :=
  if c = 0 then (match takeNum s with
    | none => .no 1
    | some (n, s') => .ok (.mk 0 n 0 [] []) s' left)
  else if c = 1 then (match takeNum s with
    | none => .no 1
    | some (n, s') => if n < 0 ∨ n > 200 ∨ n > s'.length then .no 1 else .ok (.mk 1 0 0 (s'.take n.toNat) []) (s'.drop n.toNat) left)
  else if c = 2 then (match s with
    | [] => .no 1
    | p :: s' => if primP p.toNat = true then rdArgs f 2 p.toNat s' left else .no 1)
  else if c = 3 then rdArgs f 3 0 s left
  else .no 1

def rdNode : Nat → List UInt8 → Nat → Rd Nd
  | 0, _, _ => .no 4
  | g + 1, s, left => if left = 0 then .no 4 else match s with
    | [] => .no 1
    | c :: s' => rdBody (rdNode g) c.toNat s' (left - 1)

def tDecode (s : List UInt8) : Nd × Int := match rdNode 24 s 300 with
  | .no e => (nd0, e)
  | .ok n r _ => if r = [] then (n, 0) else (nd0, 1)

theorem numB_ne (n : Int) : numB n ≠ [] := by
  unfold numB
  rw [putB]; split <;> simp

theorem manys_len : ∀ l : List Nd, l.length ≤ manys l
  | [] => Nat.le_refl _
  | .mk _ _ _ _ _ :: l => by have := manys_len l; simp only [List.length_cons, manys, many]; omega

theorem wrong_eq {kind n p : Int} {s : List UInt8} {args : List Nd} {d : Int} (h : wrong (.mk kind n p s args) d = 0) : wrong1 kind n p s args.length d = 0 ∧ wrongs args (d + 1) = 0 := by
  simp only [wrong] at h
  by_cases hh : wrong1 kind n p s args.length d = 0
  · rw [if_pos hh] at h; exact ⟨hh, h⟩
  · rw [if_neg hh] at h; exact absurd h hh

theorem wrong1_eq {kind n p : Int} {s : List UInt8} {k : Nat} {d : Int} (h : wrong1 kind n p s k d = 0) :
    d ≤ 24 ∧ (kind = 0 ∨ kind = 1 ∨ kind = 2 ∧ primP p = true ∨ kind = 3) ∧ (kind ≠ 0 → n = 0) ∧ (kind ≠ 2 → p = 0) ∧ (kind ≠ 1 → s = []) ∧ (kind < 2 → k = 0) ∧ -maxI ≤ n ∧ n ≤ maxI ∧ s.length ≤ 200 := by
  unfold wrong1 at h
  split at h
  · omega
  · split at h
    · omega
    · split at h
      · omega
      · split at h
        · omega
        · split at h
          · omega
          · rename_i h1 h2 h3 h4 h5
            simp only [not_or, not_and, ne_eq, Decidable.not_not, Bool.not_eq_false, Int.not_lt, Nat.not_lt] at h1 h2 h3 h4 h5
            refine ⟨by omega, ?_, h3.1, h3.2.1, h3.2.2.1, fun hk => by have := h3.2.2.2 hk; omega, by omega, by omega, h5⟩
            by_cases hk : kind = 2
            · right; right; left; exact ⟨hk, h2.2.2 hk⟩
            · omega

theorem wrong1_of {kind n p : Int} {s : List UInt8} {k : Nat} {d : Int} (h0 : d ≤ 24) (h1 : kind = 0 ∨ kind = 1 ∨ kind = 2 ∧ primP p = true ∨ kind = 3) (h2 : kind ≠ 0 → n = 0) (h3 : kind ≠ 2 → p = 0) (h4 : kind ≠ 1 → s = []) (h5 : kind < 2 → k = 0) (h6 : -maxI ≤ n) (h7 : n ≤ maxI) (h8 : s.length ≤ 200) : wrong1 kind n p s k d = 0 := by
  unfold wrong1
  rw [if_neg (by omega), if_neg, if_neg, if_neg (by omega), if_neg (by omega)]
  · simp only [not_or, not_and, ne_eq, Decidable.not_not]
    exact ⟨h2, h3, h4, fun hk => by have := h5 hk; omega⟩
  · simp only [not_or, not_and, Bool.not_eq_false]
    refine ⟨by omega, by omega, fun hk => ?_⟩
    rcases h1 with h | h | h | h
    · omega
    · omega
    · exact h.2
    · omega

theorem primP_range {p : Int} (h : primP p = true) : 1 ≤ p ∧ p ≤ 95 := by
  unfold primP at h; have := of_decide_eq_true h; omega

theorem rdNode_bytes : ∀ (g : Nat) (n : Nd) (r : List UInt8) (left : Nat), left ≤ 300 → wrong n (25 - g) = 0 → many n ≤ left → rdNode g (bytesN n ++ r) left = .ok n r (left - many n)
  | 0, .mk kind n p s args, r, left, hl, h, hm => by
    have := (wrong1_eq (wrong_eq h).1).1
    omega
  | g + 1, .mk kind n p s args, r, left, hl, h, hm => by
    obtain ⟨h1, h2⟩ := wrong_eq h
    obtain ⟨hd, hk, hn, hp, hs, ha, hn1, hn2, hs2⟩ := wrong1_eq h1
    simp only [many] at hm ⊢
    have hf : ∀ (n : Nd) (r : List UInt8) (lf : Nat), lf ≤ 300 → wrong n (25 - g) = 0 → many n ≤ lf → rdNode g (bytesN n ++ r) lf = .ok n r (lf - many n) := fun n r lf => rdNode_bytes g n r lf
    have hrow : ∀ (l : List Nd) (r : List UInt8) (lf : Nat), lf ≤ 300 → wrongs l (25 - g) = 0 → manys l ≤ lf → rdRow (rdNode g) l.length (bytesNs l ++ r) lf = .ok l r (lf - manys l) := by
      intro l
      induction l with
      | nil => intro r lf _ _ _; simp [rdRow, bytesNs, manys]
      | cons x l ih =>
        intro r lf hlf h hm
        simp only [wrongs] at h
        simp only [manys] at hm
        have hx : wrong x (25 - g) = 0 := by by_cases hh : wrong x (25 - g) = 0; exact hh; rw [if_neg hh] at h; exact h
        rw [if_pos hx] at h
        simp only [List.length_cons, rdRow, bytesNs, List.append_assoc, manys]
        rw [hf x _ lf hlf hx (by omega)]
        simp only
        rw [ih r _ (by omega) h (by omega)]
        simp only [Nat.sub_sub]
    have hargs : ∀ (kind p : Int), wrongs args (25 - g) = 0 → rdArgs (rdNode g) kind p (numB (args.length : Int) ++ bytesNs args ++ r) (left - 1) = .ok (.mk kind 0 p [] args) r (left - 1 - manys args) := by
      intro kind p hw
      have := manys_len args
      unfold rdArgs
      rw [List.append_assoc, takeNum_put _ _ (by unfold maxI; omega) (by unfold maxI; omega)]
      simp only
      rw [if_neg (by omega), show ((args.length : Nat) : Int).toNat = args.length from by omega, hrow args r (left - 1) (by omega) hw (by omega)]
    have h2' : wrongs args (25 - g) = 0 := by rw [← h2]; congr 1; omega
    have e : left - (manys args + 1) = left - 1 - manys args := by omega
    rw [e]
    simp only [rdNode]
    rw [if_neg (by omega)]
    have b0 : (byteOf 0).toNat = 0 := rfl
    have b1 : (byteOf 1).toNat = 1 := rfl
    have b2 : (byteOf 2).toNat = 2 := rfl
    have b3 : (byteOf 3).toNat = 3 := rfl
    rcases hk with rfl | rfl | ⟨rfl, hpp⟩ | rfl
    · have := ha (by omega); rw [List.length_eq_zero_iff] at this; subst this
      obtain rfl := hp (by omega); obtain rfl := hs (by omega)
      simp only [bytesN, if_true, List.cons_append, rdBody, b0]
      rw [takeNum_put _ _ hn1 hn2]
      simp [manys]
    · have := ha (by omega); rw [List.length_eq_zero_iff] at this; subst this
      obtain rfl := hp (by omega); obtain rfl := hn (by omega)
      simp only [bytesN, show ¬ ((1 : Int) = 0) from by omega, if_false, if_true, List.cons_append, rdBody, b1, show ¬ ((1 : Nat) = 0) from by omega]
      rw [List.append_assoc, takeNum_put _ _ (by unfold maxI; omega) (by unfold maxI; omega)]
      simp only
      rw [if_neg (by simp only [List.length_append]; omega)]
      simp [manys]
    · obtain rfl := hn (by omega); obtain rfl := hs (by omega)
      have hpr := primP_range hpp
      have hp2 : (byteOf p).toNat = p := by
        obtain ⟨q, rfl⟩ : ∃ q : Nat, p = q := ⟨p.toNat, by omega⟩
        rw [byteOf_nat _ (by omega)]
      simp only [bytesN, show ¬ ((2 : Int) = 0) from by omega, show ¬ ((2 : Int) = 1) from by omega, if_false, if_true, List.cons_append, rdBody, b2, show ¬ ((2 : Nat) = 0) from by omega, show ¬ ((2 : Nat) = 1) from by omega]
      rw [hp2, if_pos hpp, hargs 2 p h2']
    · obtain rfl := hn (by omega); obtain rfl := hs (by omega); obtain rfl := hp (by omega)
      simp only [bytesN, show ¬ ((3 : Int) = 0) from by omega, show ¬ ((3 : Int) = 1) from by omega, show ¬ ((3 : Int) = 2) from by omega, if_false, if_true, List.cons_append, rdBody, b3, show ¬ ((3 : Nat) = 0) from by omega, show ¬ ((3 : Nat) = 1) from by omega, show ¬ ((3 : Nat) = 2) from by omega]
      rw [hargs 3 0 h2']

theorem rdNode_ok : ∀ (g : Nat) (s : List UInt8) (left : Nat) (n : Nd) (r : List UInt8) (left' : Nat), g ≤ 24 → rdNode g s left = .ok n r left' → s = bytesN n ++ r ∧ wrong n (25 - g) = 0 ∧ left = left' + many n
  | 0, s, left, n, r, left', _, h => by simp [rdNode] at h
  | g + 1, s, left, n, r, left', hg, h => by
    have ih := fun s left n r left' => rdNode_ok g s left n r left' (by omega)
    have hrow : ∀ (k : Nat) (s : List UInt8) (left : Nat) (l : List Nd) (r : List UInt8) (left' : Nat), rdRow (rdNode g) k s left = .ok l r left' → s = bytesNs l ++ r ∧ wrongs l (25 - g) = 0 ∧ left = left' + manys l ∧ l.length = k := by
      intro k
      induction k with
      | zero => intro s left l r left' h; simp [rdRow] at h; obtain ⟨rfl, rfl, rfl⟩ := h; simp [bytesNs, wrongs, manys]
      | succ k ihk =>
        intro s left l r left' h
        simp only [rdRow] at h
        split at h
        · simp at h
        · rename_i x s1 l1 hx
          split at h
          · simp at h
          · rename_i l2 s2 left2 hl
            simp at h; obtain ⟨rfl, rfl, rfl⟩ := h
            obtain ⟨e1, e2, e3⟩ := ih _ _ _ _ _ hx
            obtain ⟨f1, f2, f3, f4⟩ := ihk _ _ _ _ _ hl
            refine ⟨?_, ?_, ?_, ?_⟩
            · rw [e1, f1]; simp [bytesNs]
            · simp [wrongs, e2, f2]
            · simp only [manys]; omega
            · simp [f4]
    have hargs : ∀ (kind p : Int) (s : List UInt8) (left : Nat) (n : Nd) (r : List UInt8) (left' : Nat), rdArgs (rdNode g) kind p s left = .ok n r left' → ∃ l, n = .mk kind 0 p [] l ∧ s = numB (l.length : Int) ++ bytesNs l ++ r ∧ wrongs l (25 - g) = 0 ∧ left = left' + manys l := by
      intro kind p s left n r left' h
      unfold rdArgs at h
      split at h
      · simp at h
      · rename_i k s' hk
        split at h
        · simp at h
        · rename_i hk0
          split at h
          · simp at h
          · rename_i l s2 left2 hl
            simp at h; obtain ⟨rfl, rfl, rfl⟩ := h
            obtain ⟨f1, f2, f3, f4⟩ := hrow _ _ _ _ _ _ hl
            obtain ⟨t1, _, _⟩ := takeNum_some hk
            refine ⟨l, rfl, ?_, f2, f3⟩
            rw [t1, f1, f4, List.append_assoc, show ((k.toNat : Nat) : Int) = k from by omega]
    simp only [rdNode] at h
    split at h
    · simp at h
    · rename_i hl
      cases s with
      | nil => simp at h
      | cons c s =>
        simp only at h
        have hd : (25 - ((g + 1 : Nat) : Int)) ≤ 24 := by omega
        have e25 : (25 - ((g + 1 : Nat) : Int)) + 1 = 25 - (g : Int) := by omega
        have hcb := byteOf_toNat c
        unfold rdBody at h
        split at h
        · rename_i hc
          split at h
          · simp at h
          · rename_i v s' hv
            simp at h; obtain ⟨rfl, rfl, rfl⟩ := h
            obtain ⟨t1, t2, t3⟩ := takeNum_some hv
            refine ⟨?_, ?_, by simp only [many, manys]; omega⟩
            · simp only [bytesN, if_true]; rw [t1, ← hcb, hc]; rfl
            · simp only [wrong]; rw [if_pos (wrong1_of hd (.inl rfl) (by simp) (by simp) (by simp) (by simp) t2 t3 (by simp))]; rfl
        · rename_i hc0
          split at h
          · rename_i hc
            split at h
            · simp at h
            · rename_i v s' hv
              split at h
              · simp at h
              · rename_i hvb
                simp at h; obtain ⟨rfl, rfl, rfl⟩ := h
                obtain ⟨t1, t2, t3⟩ := takeNum_some hv
                have hlen : (s'.take v.toNat).length = v.toNat := by rw [List.length_take]; omega
                refine ⟨?_, ?_, by simp only [many, manys]; omega⟩
                · simp only [bytesN, show ¬ ((1 : Int) = 0) from by omega, if_false, if_true]
                  rw [hlen, show ((v.toNat : Nat) : Int) = v from by omega, t1, ← hcb, hc]
                  simp [List.append_assoc]
                · simp only [wrong]; rw [if_pos (wrong1_of hd (.inr (.inl rfl)) (by simp) (by simp) (by simp) (by simp) (by unfold maxI; omega) (by unfold maxI; omega) (by rw [hlen]; omega))]; rfl
          · rename_i hc1
            split at h
            · rename_i hc
              cases s with
              | nil => simp at h
              | cons p s =>
                simp only at h
                split at h
                · rename_i hp
                  obtain ⟨l, rfl, f1, f2, f3⟩ := hargs _ _ _ _ _ _ _ h
                  have hpb := byteOf_toNat p
                  refine ⟨?_, ?_, by simp only [many]; omega⟩
                  · simp only [bytesN, show ¬ ((2 : Int) = 0) from by omega, show ¬ ((2 : Int) = 1) from by omega, if_false, if_true]
                    rw [f1, hpb, ← hcb, hc]; rfl
                  · simp only [wrong]; rw [if_pos (wrong1_of hd (.inr (.inr (.inl ⟨rfl, hp⟩))) (by simp) (by simp) (by simp) (by simp) (by unfold maxI; omega) (by unfold maxI; omega) (by simp)), e25]; exact f2
                · simp at h
            · rename_i hc2
              split at h
              · rename_i hc
                obtain ⟨l, rfl, f1, f2, f3⟩ := hargs _ _ _ _ _ _ _ h
                refine ⟨?_, ?_, by simp only [many]; omega⟩
                · simp only [bytesN, show ¬ ((3 : Int) = 0) from by omega, show ¬ ((3 : Int) = 1) from by omega, show ¬ ((3 : Int) = 2) from by omega, if_false]
                  rw [f1, ← hcb, hc]; rfl
                · simp only [wrong]; rw [if_pos (wrong1_of hd (.inr (.inr (.inr rfl))) (by simp) (by simp) (by simp) (by simp) (by unfold maxI; omega) (by unfold maxI; omega) (by simp)), e25]; exact f2
              · simp at h

theorem rdNode_more {g : Nat} {s : List UInt8} (t : List UInt8) {left : Nat} {n : Nd} {r : List UInt8} {left' : Nat} (hg : g ≤ 24) (hl : left ≤ 300) (h : rdNode g s left = .ok n r left') : rdNode g (s ++ t) left = .ok n (r ++ t) left' := by
  obtain ⟨h1, h2, h3⟩ := rdNode_ok g s left n r left' hg h
  rw [h1, List.append_assoc, rdNode_bytes g n (r ++ t) left hl h2 (by omega), show left - many n = left' from by omega]

theorem rdNode_no : ∀ (g : Nat) (s : List UInt8) (left : Nat) (e : Int), g ≤ 24 → left ≤ 300 → rdNode g s left = .no e → e = 1 ∨ e = 4 ∧ ∀ t, rdNode g (s ++ t) left = .no 4
  | 0, s, left, e, _, _, h => by simp [rdNode] at h; right; exact ⟨h.symm, fun t => rfl⟩
  | g + 1, s, left, e, hg, hl300, h => by
    have hrow : ∀ (k : Nat) (s : List UInt8) (left : Nat) (e : Int), left ≤ 300 → rdRow (rdNode g) k s left = .no e → e = 1 ∨ e = 4 ∧ ∀ t, rdRow (rdNode g) k (s ++ t) left = .no 4 := by
      intro k
      induction k with
      | zero => intro s left e _ h; simp [rdRow] at h
      | succ k ihk =>
        intro s left e hl h
        simp only [rdRow] at h
        split at h
        · rename_i e1 he1
          simp at h; subst h
          refine (rdNode_no g s left _ (by omega) hl he1).imp id fun ⟨h1, h2⟩ => ⟨h1, fun t => ?_⟩
          simp only [rdRow, h2 t]
        · rename_i x s1 l1 hx
          have h3 := (rdNode_ok g _ _ _ _ _ (by omega) hx).2.2
          split at h
          · rename_i e1 he1
            simp at h; subst h
            refine (ihk s1 l1 _ (by omega) he1).imp id fun ⟨h1, h2⟩ => ⟨h1, fun t => ?_⟩
            simp only [rdRow, rdNode_more t (by omega) hl hx, h2 t]
          · simp at h
    have hargs : ∀ (kind p : Int) (s : List UInt8) (left : Nat) (e : Int), left ≤ 300 → rdArgs (rdNode g) kind p s left = .no e → e = 1 ∨ e = 4 ∧ ∀ t, rdArgs (rdNode g) kind p (s ++ t) left = .no 4 := by
      intro kind p s left e hl h
      unfold rdArgs at h
      split at h
      · simp at h; exact .inl h.symm
      · rename_i k s' hk
        split at h
        · simp at h; exact .inl h.symm
        · rename_i hk0
          split at h
          · rename_i e1 he1
            simp at h; subst h
            refine (hrow _ _ _ _ hl he1).imp id fun ⟨h1, h2⟩ => ⟨h1, fun t => ?_⟩
            unfold rdArgs
            rw [takeNum_more t hk]
            simp only
            rw [if_neg hk0, h2 t]
          · simp at h
    simp only [rdNode] at h
    split at h
    · rename_i hl0
      simp at h; subst h
      right; exact ⟨rfl, fun t => by simp only [rdNode, if_pos hl0]⟩
    · rename_i hl0
      cases s with
      | nil => simp at h; exact .inl h.symm
      | cons c s =>
        simp only at h
        unfold rdBody at h
        split at h
        · split at h
          · simp at h; exact .inl h.symm
          · simp at h
        · rename_i hc0
          split at h
          · split at h
            · simp at h; exact .inl h.symm
            · split at h
              · simp at h; exact .inl h.symm
              · simp at h
          · rename_i hc1
            split at h
            · rename_i hc2
              cases s with
              | nil => simp at h; exact .inl h.symm
              | cons p s =>
                simp only at h
                split at h
                · rename_i hp
                  refine (hargs _ _ _ _ _ (by omega) h).imp id fun ⟨h1, h2⟩ => ⟨h1, fun t => ?_⟩
                  simp only [rdNode, if_neg hl0, List.cons_append, rdBody, if_neg hc0, if_neg hc1, if_pos hc2, if_pos hp, h2 t]
                · simp at h; exact .inl h.symm
            · rename_i hc2
              split at h
              · rename_i hc3
                refine (hargs _ _ _ _ _ (by omega) h).imp id fun ⟨h1, h2⟩ => ⟨h1, fun t => ?_⟩
                simp only [rdNode, if_neg hl0, List.cons_append, rdBody, if_neg hc0, if_neg hc1, if_neg hc2, if_pos hc3, h2 t]
              · simp at h; exact .inl h.symm

theorem tGoodN_zero {n : Nd} : tGoodN n = 0 ↔ wrong n 1 = 0 ∧ many n ≤ 300 := by
  unfold tGoodN
  split
  · rename_i h; split <;> simp [h] <;> omega
  · rename_i h; simp [h]

theorem tDecode_only {s : List UInt8} (h : (tDecode s).2 = 0) : tGoodN (tDecode s).1 = 0 ∧ bytesN (tDecode s).1 = s := by
  unfold tDecode at h ⊢
  split at h
  · rename_i e he
    simp at h; subst h
    have := rdNode_no 24 s 300 0 (by omega) (by omega) he
    omega
  · rename_i n r l hn
    obtain ⟨h1, h2, h3⟩ := rdNode_ok 24 _ _ _ _ _ (by omega) hn
    split at h
    · rename_i hr
      simp only [if_pos hr]
      refine ⟨tGoodN_zero.2 ⟨h2, by omega⟩, by rw [h1, hr, List.append_nil]⟩
    · simp at h
theorem tDecode_bad {s : List UInt8} (h : (tDecode s).2 ≠ 0) : (tDecode s).1 = nd0 := by
  unfold tDecode at h ⊢
  split at h
  · rfl
  · split at h
    · simp at h
    · rename_i hr; simp only [if_neg hr]
end Go.Abs

set_option linter.unusedVariables false
set_option linter.unusedSimpArgs false
namespace Go.Abs

def tyT : Ty → Int | .mk T _ => T
def tyArgs : Ty → List Ty | .mk _ l => l
def tyArg (t : Ty) (i : Nat) : Ty := (tyArgs t).getD i ty0
def vK : Vl → Int | .mk k _ _ _ _ _ _ => k
def vN : Vl → Int | .mk _ n _ _ _ _ _ => n
def vS : Vl → List UInt8 | .mk _ _ _ s _ _ _ => s
def vArgs : Vl → List Vl | .mk _ _ _ _ l _ _ => l
def vl0 : Vl := .mk 0 0 0 [] [] [] []

mutual
/-- Size. -/
def vSize : Vl → Nat
  | .mk _ _ _ s args _ _ => 1 + s.length / 8 + vSizes args
def vSizes : List Vl → Nat
  | [] => 0
  | x :: l => vSize x + vSizes l
end

mutual
def vSame : Vl → Vl → Bool
  | .mk k n a s l t c, .mk k' n' a' s' l' t' c' => k == k' && n == n' && a == a' && s == s' && vsSame l l' && tysSame t t' && ndsSame c c'
def vsSame : List Vl → List Vl → Bool
  | [], [] => true
  | t :: l, u :: r => vSame t u && vsSame l r
  | _, _ => false
end
mutual
theorem vSame_iff : ∀ (t u : Vl), vSame t u = true ↔ t = u
  | .mk k n a s l t c, .mk k' n' a' s' l' t' c' => by simp [vSame, vsSame_iff l l', tysSame_iff t t', ndsSame_iff c c', and_assoc]
theorem vsSame_iff : ∀ (t u : List Vl), vsSame t u = true ↔ t = u
  | [], [] => by simp [vsSame]
  | [], _ :: _ => by simp [vsSame]
  | _ :: _, [] => by simp [vsSame]
  | t :: l, u :: r => by simp [vsSame, vSame_iff t u, vsSame_iff l r]
end
theorem vsSame_len : ∀ (t u : List Vl), t.length ≠ u.length → vsSame t u = false
  | [], [], h => by simp at h
  | [], _ :: _, _ => by simp [vsSame]
  | _ :: _, [], _ => by simp [vsSame]
  | t :: l, u :: r, h => by simp [vsSame, vsSame_len l r (by simpa using h)]

def sgn (a b : Int) : Int := if a < b then -1 else if a > b then 1 else 0
def strCmp (a b : List UInt8) : Int := if Op.bytesLess a b then -1 else if Op.bytesLess b a then 1 else 0

mutual
/-- compare -/
def vCmp : Vl → Vl → Int
  | .mk k n a s args types code, .mk k' n' a' s' args' types' code' =>
    if k = 6 then strCmp s s'
    else if k = 9 then (if sgn args.length args'.length = 0 then vCmps args args' else sgn args.length args'.length)
    else if k = 11 then vCmps args args'
    else if k = 12 then (if sgn n n' = 0 then vCmps args args' else sgn n n')
    else sgn n n'
def vCmps : List Vl → List Vl → Int
  | x :: l, y :: r => if vCmp x y = 0 then vCmps l r else vCmp x y
  | _, _ => 0
end

def vPlain : Vl → Bool
  | .mk k n a s args types code =>
    if k = 15 then decide (types.length = 0 ∧ code.length = 0 ∧ s = [])
    else if k = 8 then decide (types.length = 1 ∧ code.length = 0 ∧ s = [])
    else if k = 14 then decide (types.length = 2 ∧ a = 0 ∧ n = 0 ∧ s = [] ∧ args.length = 0)
    else if k = 6 then decide (types.length = 0 ∧ code.length = 0 ∧ a = 0 ∧ n = 0 ∧ args.length = 0)
    else decide (types.length = 0 ∧ code.length = 0 ∧ a = 0 ∧ s = [])

/-- The first of what a pair has, of an item of a map. -/
def vKey (x : Vl) : Vl := (vArgs x).getD 0 vl0
def vUp : List Vl → Bool
  | [] => true
  | x :: l => match l with
    | [] => true
    | y :: _ => decide (vCmp (vKey x) (vKey y) < 0) && vUp l

mutual
/-- has -/
def vHas : Vl → Ty → Bool
  | .mk k n a s args types code, t =>
    if k ≠ tyT t ∨ vPlain (.mk k n a s args types code) = false ∨ 200 < s.length then false
    else if k = 1 ∨ k = 6 then decide (n = 0 ∧ args.length = 0)
    else if k = 2 then decide (0 ≤ n ∧ n ≤ 1 ∧ args.length = 0)
    else if k = 3 then decide (-maxI ≤ n ∧ n ≤ maxI ∧ args.length = 0)
    else if k = 4 ∨ k = 5 then decide (0 ≤ n ∧ n ≤ maxI ∧ args.length = 0)
    else if k = 7 then decide (0 ≤ n ∧ n < 12 ∧ args.length = 0)
    else if k = 9 then decide (n = 0 ∧ args.length ≤ 1) && vHasAll args (tyArg t 0)
    else if k = 10 then decide (n = 0 ∧ args.length ≤ 24) && vHasAll args (tyArg t 0)
    else if k = 11 then decide (n = 0 ∧ args.length = 2) && vHasRow args (tyArgs t)
    else if k = 12 then decide (0 ≤ n ∧ n ≤ 1 ∧ args.length = 1) && vHasAll args (tyArg t n.toNat)
    else if k = 13 then decide (n = 0 ∧ args.length ≤ 24) && vHasAll args (.mk 11 (tyArgs t)) && vUp args
    else if k = 14 then tySame (tyArg t 0) (types.getD 0 ty0) && tySame (tyArg t 1) (types.getD 1 ty0)
    else if k = 15 then decide (1 ≤ n ∧ n ≤ maxI ∧ 0 ≤ a ∧ a < 12 ∧ args.length = 1) && vHasAll args (tyArg t 0)
    else if k = 8 then decide (0 ≤ n ∧ n ≤ maxI ∧ 0 ≤ a ∧ a < 12 ∧ args.length = 1) && tGood (types.getD 0 ty0) && vHasAll args (types.getD 0 ty0)
    else false
def vHasAll : List Vl → Ty → Bool
  | [], _ => true
  | x :: l, t => vHas x t && vHasAll l t
def vHasRow : List Vl → List Ty → Bool
  | x :: l, t :: r => vHas x t && vHasRow l r
  | _, _ => true
end
def tHas (t : Ty) (v : Vl) : Bool := tGood t && vHas v t

theorem vHasAll_iff (t : Ty) : ∀ (l : List Vl), vHasAll l t = true ↔ ∀ x ∈ l, vHas x t = true
  | [] => by simp [vHasAll]
  | x :: l => by simp [vHasAll, vHasAll_iff t l]

def tCompare (t : Ty) (a b : Vl) : Int × Int := if tHas t a = true ∧ tHas t b = true ∧ tComp t = true then (vCmp a b, 0) else (0, 5)

-- what can be compared
theorem sgn_neg (a b : Int) : sgn a b = -sgn b a := by unfold sgn; split <;> split <;> (try split) <;> omega
theorem sgn_range (a b : Int) : -1 ≤ sgn a b ∧ sgn a b ≤ 1 := by unfold sgn; split <;> (try split) <;> omega
theorem sgn_zero {a b : Int} : sgn a b = 0 ↔ a = b := by unfold sgn; split <;> (try split) <;> omega

/-- Three answers go together: on from one to the next, even just where both are. -/
def Goes (x y z : Int) : Prop := (x ≤ 0 → y ≤ 0 → z ≤ 0 ∧ (z = 0 ↔ x = 0 ∧ y = 0)) ∧ (x ≥ 0 → y ≥ 0 → z ≥ 0 ∧ (z = 0 ↔ x = 0 ∧ y = 0))
theorem sgn_goes (a b c : Int) : Goes (sgn a b) (sgn b c) (sgn a c) := by
  unfold Goes sgn
  constructor <;> intro h1 h2 <;> split at h1 <;> split at h2 <;> split <;> (try split at h1) <;> (try split at h2) <;> (try split) <;> omega

theorem less_irrefl : ∀ (a : List UInt8), Op.bytesLess a a = false
  | [] => rfl
  | x :: a => by simp [Op.bytesLess, less_irrefl a]
theorem less_asymm : ∀ (a b : List UInt8), Op.bytesLess a b = true → Op.bytesLess b a = false
  | [], [], h => by simp [Op.bytesLess] at h
  | [], _ :: _, _ => rfl
  | _ :: _, [], h => by simp [Op.bytesLess] at h
  | x :: a, y :: b, h => by
    simp only [Op.bytesLess, Bool.or_eq_true, decide_eq_true_eq, Bool.and_eq_true, beq_iff_eq] at h
    simp only [Op.bytesLess, Bool.or_eq_false_iff, decide_eq_false_iff_not, Bool.and_eq_false_iff]
    rw [UInt8.lt_iff_toNat_lt] at *
    rcases h with h | ⟨rfl, h⟩
    · refine ⟨by omega, .inl ?_⟩
      simp only [beq_eq_false_iff_ne]; rintro rfl; omega
    · exact ⟨by omega, .inr (less_asymm a b h)⟩
theorem less_total : ∀ (a b : List UInt8), Op.bytesLess a b = false → Op.bytesLess b a = false → a = b
  | [], [], _, _ => rfl
  | [], _ :: _, h, _ => by simp [Op.bytesLess] at h
  | _ :: _, [], _, h => by simp [Op.bytesLess] at h
  | x :: a, y :: b, h, h' => by
    simp only [Op.bytesLess, Bool.or_eq_false_iff, decide_eq_false_iff_not, Bool.and_eq_false_iff, beq_eq_false_iff_ne, UInt8.lt_iff_toNat_lt] at h h'
    have e : x = y := UInt8.toNat_inj.1 (by omega)
    subst e
    rw [less_total a b (by simpa using h.2) (by simpa using h'.2)]
/-- Of one answer and what comes where it is even. -/
theorem goes_then {x y z x' y' z' : Int} (h : Goes x y z) (h' : x = 0 → y = 0 → Goes x' y' z') : Goes (if x = 0 then x' else x) (if y = 0 then y' else y) (if z = 0 then z' else z) := by
  unfold Goes at *
  by_cases ex : x = 0
  · by_cases ey : y = 0
    · have ez : z = 0 := by have := h.1 (by omega) (by omega); exact this.2.2 ⟨ex, ey⟩
      simp only [ex, ey, ez, if_true]
      exact h' ex ey
    · constructor
      · intro h1 h2
        rw [if_neg ey] at h2
        have := h.1 (by omega) h2
        have ez : z ≠ 0 := fun e => ey (this.2.1 e).2
        rw [if_neg ez, if_neg ey, if_pos ex]
        exact ⟨this.1, by constructor <;> intro h <;> omega⟩
      · intro h1 h2
        rw [if_neg ey] at h2
        have := h.2 (by omega) h2
        have ez : z ≠ 0 := fun e => ey (this.2.1 e).2
        rw [if_neg ez, if_neg ey, if_pos ex]
        exact ⟨this.1, by constructor <;> intro h <;> omega⟩
  · constructor
    · intro h1 h2
      rw [if_neg ex] at h1 ⊢
      have hy : y ≤ 0 := by by_cases ey : y = 0 <;> simp_all
      have := h.1 h1 hy
      have ez : z ≠ 0 := fun e => ex (this.2.1 e).1
      rw [if_neg ez]
      exact ⟨this.1, by constructor <;> intro h <;> omega⟩
    · intro h1 h2
      rw [if_neg ex] at h1 ⊢
      have hy : y ≥ 0 := by by_cases ey : y = 0 <;> simp_all
      have := h.2 h1 hy
      have ez : z ≠ 0 := fun e => ex (this.2.1 e).1
      rw [if_neg ez]
      exact ⟨this.1, by constructor <;> intro h <;> omega⟩

/-- Each of some values is one of its type, that can be compared. -/
def hasZ : List Vl → List Ty → Prop
  | [], _ => True
  | x :: l, t :: r => vHas x t = true ∧ tComp t = true ∧ tBad t = false ∧ hasZ l r
  | _ :: _, [] => False

theorem tBads_mem : ∀ {l : List Ty} {x : Ty}, tBads l = false → x ∈ l → tBad x = false
  | [], _, _, h => by simp at h
  | t :: l, x, hb, h => by
    simp only [tBads, Bool.or_eq_false_iff] at hb
    rcases List.mem_cons.1 h with rfl | h
    · exact hb.1
    · exact tBads_mem hb.2 h
theorem talls_mem {p : Int → Bool} : ∀ {l : List Ty} {x : Ty}, talls p l = true → x ∈ l → tall p x = true
  | [], _, _, h => by simp at h
  | t :: l, x, hb, h => by
    simp only [talls, Bool.and_eq_true] at hb
    rcases List.mem_cons.1 h with rfl | h
    · exact hb.1
    · exact talls_mem hb.2 h
theorem tyArg_mem {t : Ty} {i : Nat} (h : i < (tyArgs t).length) : tyArg t i ∈ tyArgs t := by
  unfold tyArg; rw [List.getD_eq_getElem?_getD, List.getElem?_eq_getElem h]; exact List.getElem_mem h
theorem tBad_args {t : Ty} (h : tBad t = false) : arity (tyT t) = (tyArgs t).length ∧ tBads (tyArgs t) = false := by
  cases t with | mk T l => simpa [tBad, tyT, tyArgs] using h
theorem tComp_args {t : Ty} (h : tComp t = true) : compP (tyT t) = true ∧ talls compP (tyArgs t) = true := by
  cases t with | mk T l => simpa [tComp, tall, tyT, tyArgs] using h
theorem comp_arg {t : Ty} (hc : tComp t = true) (hb : tBad t = false) {i : Nat} (h : (i : Int) < arity (tyT t)) : tComp (tyArg t i) = true ∧ tBad (tyArg t i) = false := by
  have h1 := tBad_args hb; have h2 := tComp_args hc
  have hm : tyArg t i ∈ tyArgs t := tyArg_mem (by omega)
  exact ⟨talls_mem h2.2 hm, tBads_mem h1.2 hm⟩

theorem hasZ_one {l : List Vl} {t : Ty} (hl : l.length ≤ 1) (h : vHasAll l t = true) (hc : tComp t = true) (hb : tBad t = false) : hasZ l [t] := by
  cases l with
  | nil => trivial
  | cons x l =>
    cases l with
    | nil => simp only [vHasAll, Bool.and_eq_true] at h; exact ⟨h.1, hc, hb, trivial⟩
    | cons y l => simp at hl
theorem hasZ_row : ∀ {l : List Vl} {ts : List Ty}, l.length = ts.length → vHasRow l ts = true → talls compP ts = true → tBads ts = false → hasZ l ts
  | [], _, _, _, _, _ => trivial
  | x :: l, [], h, _, _, _ => by simp at h
  | x :: l, t :: ts, h, hr, hc, hb => by
    simp only [vHasRow, Bool.and_eq_true] at hr
    simp only [talls, Bool.and_eq_true] at hc
    simp only [tBads, Bool.or_eq_false_iff] at hb
    exact ⟨hr.1, hc.1, hb.1, hasZ_row (by simpa using h) hr.2 hc.2 hb.2⟩

theorem compP_cases {T : Int} (h : compP T = true) : T = 1 ∨ T = 2 ∨ T = 3 ∨ T = 4 ∨ T = 5 ∨ T = 6 ∨ T = 7 ∨ T = 9 ∨ T = 11 ∨ T = 12 := by
  have h1 : T ≠ 8 ∧ T ≠ 10 ∧ T ≠ 13 ∧ T ≠ 14 ∧ T ≠ 15 ∧ arity T ≥ 0 := by
    simp only [compP, Bool.and_eq_true, bne_iff_ne, decide_eq_true_eq, ne_eq] at h
    exact ⟨h.1.1.1.1.1, h.1.1.1.1.2, h.1.1.1.2, h.1.1.2, h.1.2, h.2⟩
  have h2 := h1.2.2.2.2.2
  unfold arity at h2
  split at h2
  · omega
  · split at h2
    · omega
    · split at h2 <;> omega

theorem vHas_head {k n a : Int} {s : List UInt8} {args : List Vl} {types : List Ty} {code : List Nd} {t : Ty} (h : vHas (.mk k n a s args types code) t = true) : k = tyT t ∧ vPlain (.mk k n a s args types code) = true ∧ s.length ≤ 200 := by
  by_cases hc : k ≠ tyT t ∨ vPlain (.mk k n a s args types code) = false ∨ 200 < s.length
  · simp only [vHas, if_pos hc] at h; simp at h
  · simp only [not_or, ne_eq, Decidable.not_not, Bool.not_eq_false, Nat.not_lt] at hc; exact hc

theorem vHas_comp {k n a : Int} {s : List UInt8} {args : List Vl} {types : List Ty} {code : List Nd} {t : Ty} (h : vHas (.mk k n a s args types code) t = true) (hc : tComp t = true) (hb : tBad t = false) :
    k = tyT t ∧ a = 0 ∧ types = [] ∧ code = [] ∧ (k = 6 ∧ n = 0 ∧ args = [] ∨ (k ≠ 6 ∧ k ≠ 9 ∧ k ≠ 11 ∧ k ≠ 12) ∧ s = [] ∧ args = [] ∨ k = 9 ∧ n = 0 ∧ s = [] ∧ args.length ≤ 1 ∧ hasZ args [tyArg t 0] ∨
      k = 11 ∧ n = 0 ∧ s = [] ∧ args.length = 2 ∧ hasZ args (tyArgs t) ∨ k = 12 ∧ s = [] ∧ args.length = 1 ∧ hasZ args [tyArg t n.toNat]) := by
  obtain ⟨h1, h2, h3⟩ := vHas_head h
  have hk := compP_cases (tComp_args hc).1
  rw [← h1] at hk
  have hcond : ¬ (k ≠ tyT t ∨ vPlain (.mk k n a s args types code) = false ∨ 200 < s.length) := by
    rintro (h | h | h)
    · exact h h1
    · rw [h2] at h; simp at h
    · omega
  simp only [vHas, if_neg hcond] at h
  have har := (tBad_args hb).1
  rw [← h1] at har
  simp only [vPlain] at h2
  rcases hk with rfl | rfl | rfl | rfl | rfl | rfl | rfl | rfl | rfl | rfl
  all_goals simp at h h2
  · obtain ⟨p1, p2, p3, p4⟩ := h2
    exact ⟨h1, p3, p1, p2, .inr (.inl ⟨by omega, p4, h.2⟩)⟩
  · obtain ⟨p1, p2, p3, p4⟩ := h2
    exact ⟨h1, p3, p1, p2, .inr (.inl ⟨by omega, p4, h.2.2⟩)⟩
  · obtain ⟨p1, p2, p3, p4⟩ := h2
    exact ⟨h1, p3, p1, p2, .inr (.inl ⟨by omega, p4, h.2.2⟩)⟩
  · obtain ⟨p1, p2, p3, p4⟩ := h2
    exact ⟨h1, p3, p1, p2, .inr (.inl ⟨by omega, p4, h.2.2⟩)⟩
  · obtain ⟨p1, p2, p3, p4⟩ := h2
    exact ⟨h1, p3, p1, p2, .inr (.inl ⟨by omega, p4, h.2.2⟩)⟩
  · obtain ⟨p1, p2, p3, p4, p5⟩ := h2
    exact ⟨h1, p3, p1, p2, .inl ⟨rfl, h.1, h.2⟩⟩
  · obtain ⟨p1, p2, p3, p4⟩ := h2
    exact ⟨h1, p3, p1, p2, .inr (.inl ⟨by omega, p4, h.2.2⟩)⟩
  · obtain ⟨p1, p2, p3, p4⟩ := h2
    have hsub := comp_arg hc hb (i := 0) (by rw [← h1]; decide)
    exact ⟨h1, p3, p1, p2, .inr (.inr (.inl ⟨rfl, h.1.1, p4, h.1.2, hasZ_one h.1.2 h.2 hsub.1 hsub.2⟩))⟩
  · obtain ⟨p1, p2, p3, p4⟩ := h2
    have e : (tyArgs t).length = 2 := by have : arity 11 = 2 := by decide
                                         omega
    exact ⟨h1, p3, p1, p2, .inr (.inr (.inr (.inl ⟨rfl, h.1.1, p4, h.1.2, hasZ_row (by omega) h.2 (tComp_args hc).2 (tBad_args hb).2⟩)))⟩
  · obtain ⟨p1, p2, p3, p4⟩ := h2
    have hsub := comp_arg hc hb (i := n.toNat) (by rw [← h1]; have : arity 12 = 2 := by decide
                                                   omega)
    exact ⟨h1, p3, p1, p2, .inr (.inr (.inr (.inr ⟨rfl, p4, h.1.2.2, hasZ_one (by omega) h.2 hsub.1 hsub.2⟩)))⟩

structure CmpOk (x u y z : Int) (e : Prop) : Prop where
  neg : x = -u
  lo : -1 ≤ x
  hi : x ≤ 1
  zero : x = 0 ↔ e
  goes : Goes x y z

theorem CmpOk.sgn (a b c : Int) {e : Prop} (he : a = b ↔ e) : CmpOk (sgn a b) (Go.Abs.sgn b a) (Go.Abs.sgn b c) (Go.Abs.sgn a c) e := ⟨sgn_neg a b, (sgn_range a b).1, (sgn_range a b).2, sgn_zero.trans he, sgn_goes a b c⟩
theorem CmpOk.then {x u y z x' u' y' z' : Int} {e e' e'' : Prop} (h : CmpOk x u y z e) (h' : x = 0 → y = 0 → CmpOk x' u' y' z' e') (h2 : x = 0 → x' = -u' ∧ -1 ≤ x' ∧ x' ≤ 1 ∧ (x' = 0 ↔ e')) (he : e ∧ e' ↔ e'') :
    CmpOk (if x = 0 then x' else x) (if u = 0 then u' else u) (if y = 0 then y' else y) (if z = 0 then z' else z) e'' := by
  have hn := h.neg
  refine ⟨?_, ?_, ?_, ?_, goes_then h.goes fun h1 h3 => (h' h1 h3).goes⟩
  · by_cases hx : x = 0
    · rw [if_pos hx, if_pos (by omega)]; exact (h2 hx).1
    · rw [if_neg hx, if_neg (by omega)]; exact hn
  · by_cases hx : x = 0
    · rw [if_pos hx]; exact (h2 hx).2.1
    · rw [if_neg hx]; exact h.lo
  · by_cases hx : x = 0
    · rw [if_pos hx]; exact (h2 hx).2.2.1
    · rw [if_neg hx]; exact h.hi
  · by_cases hx : x = 0
    · rw [if_pos hx, (h2 hx).2.2.2, ← he]; simp [h.zero.1 hx]
    · rw [if_neg hx, ← he]
      constructor
      · intro hh; exact absurd hh hx
      · intro hh; exact absurd (h.zero.2 hh.1) hx

-- the reference
mutual
/-- Order -/
def rOrd : Vl → Vl → Int
  | .mk k n a s args types code, .mk k' n' a' s' args' types' code' =>
    if (if k = 9 then (args.length : Int) else n) < (if k = 9 then (args'.length : Int) else n') ∨ Op.bytesLess s s' = true then -1
    else if (if k = 9 then (args.length : Int) else n) > (if k = 9 then (args'.length : Int) else n') ∨ Op.bytesLess s' s = true then 1
    else rOrds args args'
def rOrds : List Vl → List Vl → Int
  | x :: l, y :: r => if rOrd x y = 0 then rOrds l r else rOrd x y
  | _, _ => 0
end
mutual
theorem rOrd_eq : ∀ (a b : Vl) (t : Ty), tComp t = true → tBad t = false → vHas a t = true → vHas b t = true → rOrd a b = vCmp a b
  | .mk k n a s args types code, .mk k' n' a' s' args' types' code', t, hc, hb, h1, h2 => by
    obtain ⟨e1, rfl, rfl, rfl, f1⟩ := vHas_comp h1 hc hb
    obtain ⟨e2, rfl, rfl, rfl, f2⟩ := vHas_comp h2 hc hb
    obtain rfl : k' = k := by rw [e1, e2]
    rcases f1 with ⟨g0, g1, g2⟩ | ⟨g0, g1, g2⟩ | ⟨g0, g1, g2, g3, g4⟩ | ⟨g0, g1, g2, g3, g4⟩ | ⟨g0, g2, g3, g4⟩
    · rcases f2 with ⟨m0, m1, m2⟩ | ⟨m0, _⟩ | ⟨m0, _⟩ | ⟨m0, _⟩ | ⟨m0, _⟩ <;> first | omega | skip
      subst g1 g2 m1 m2 g0
      simp [vCmp, rOrd, rOrds, strCmp]
    · rcases f2 with ⟨m0, _⟩ | ⟨m0, m1, m2⟩ | ⟨m0, _⟩ | ⟨m0, _⟩ | ⟨m0, _⟩ <;> first | omega | skip
      subst g1 g2 m1 m2
      simp [vCmp, rOrd, rOrds, if_neg g0.1, if_neg g0.2.1, if_neg g0.2.2.1, if_neg g0.2.2.2, Op.bytesLess, sgn]
    · rcases f2 with ⟨m0, _⟩ | ⟨m0, _⟩ | ⟨m0, m1, m2, m3, m4⟩ | ⟨m0, _⟩ | ⟨m0, _⟩ <;> first | omega | skip
      subst g1 g2 m1 m2 g0
      have ih := rOrds_eq args args' _ g4 m4
      simp only [vCmp, rOrd, Op.bytesLess, show ¬ ((9 : Int) = 6) from by omega, if_false, if_true, sgn, ih]
      split <;> (try split) <;> simp_all <;> omega
    · rcases f2 with ⟨m0, _⟩ | ⟨m0, _⟩ | ⟨m0, _⟩ | ⟨m0, m1, m2, m3, m4⟩ | ⟨m0, _⟩ <;> first | omega | skip
      subst g1 g2 m1 m2 g0
      have ih := rOrds_eq args args' _ g4 m4
      simp [vCmp, rOrd, Op.bytesLess, ih]
    · rcases f2 with ⟨m0, _⟩ | ⟨m0, _⟩ | ⟨m0, _⟩ | ⟨m0, _⟩ | ⟨m0, m2, m3, m4⟩ <;> first | omega | skip
      subst g2 m2 g0
      by_cases hn : n = n'
      · subst hn
        have ih := rOrds_eq args args' _ g4 m4
        simp [vCmp, rOrd, Op.bytesLess, ih, sgn]
      · simp only [vCmp, rOrd, Op.bytesLess, show ¬ ((12 : Int) = 6) from by omega, show ¬ ((12 : Int) = 9) from by omega, show ¬ ((12 : Int) = 11) from by omega, if_false, if_true, sgn]
        by_cases hlt : n < n'
        · simp [hlt]
        · have : n > n' := by omega
          simp [hlt, this]
theorem rOrds_eq : ∀ (a b : List Vl) (ts : List Ty), hasZ a ts → hasZ b ts → rOrds a b = vCmps a b
  | [], b, _, _, _ => by cases b <;> rfl
  | _ :: _, [], _, _, _ => rfl
  | x :: a, y :: b, [], h, _ => h.elim
  | x :: a, y :: b, t :: ts, ha, hb => by
    simp only [rOrds, vCmps]
    rw [rOrd_eq x y t ha.2.1 ha.2.2.1 ha.1 hb.1, rOrds_eq a b ts ha.2.2.2 hb.2.2.2]
end
end Go.Abs

-- WIDE
-- OLDASM
set_option linter.unusedVariables false
set_option linter.unusedSimpArgs false
namespace Go.Abs
theorem cmpBytes_eq : ∀ (a b : List UInt8), Lib.compareBytes a b = strCmp a b
  | [], [] => rfl
  | [], _ :: _ => rfl
  | _ :: _, [] => rfl
  | x :: a, y :: b => by
    have ih := cmpBytes_eq a b
    unfold strCmp at ih ⊢
    simp only [Lib.compareBytes, Op.bytesLess]
    by_cases h1 : x < y
    · simp [h1]
    · by_cases h2 : y < x
      · have hxy : (x == y) = false := by simp only [beq_eq_false_iff_ne]; rintro rfl; exact h1 h2
        have hyx : (y == x) = true ∨ (y == x) = false := by cases (y == x) <;> simp
        simp [h1, h2, hxy]
      · have e : x = y := UInt8.toNat_inj.1 (by rw [UInt8.lt_iff_toNat_lt] at h1 h2; omega)
        subst e
        simp [h1, ih]
section
variable {P : Program} {X : Ctx} {ops : Array Oper} {o : Oper} {rest : List Oper} {env : Env} {acc : List Fp} {Q : Env → St → List Fp → Prop} {σ : St}
theorem OpSem.cmpStr {fn : Func} {f : FuncId} (hf : P.funcs[f]? = some fn) (hname : (fn.name == "runtime.NumGoroutine") = false) (hb : fn.body.isNone = true) (hn : Extern.findNext fn = none) (he : Extern.find fn = some Extern.BytealgCompare.compare)
    {args : Array Operand} {ts : Array TypeId} (ho : o.op = .call { callee := .value (.func f), args := args, argTypes := ts }) {x y : Operand} (hargs : args = #[x, y]) {a b : List UInt8} (hx : aeval X env x = some (.c (.str a))) (hy : aeval X env y = some (.c (.str b))) :
    OpSem P X o env σ (.c (.int .i64 (strCmp a b))) (fun σ => σ) ⟨[], []⟩ := by
  subst hargs
  refine OpSem.val fun env1 w g act h1 himm hglob henv => ?_
  have hx' : aeval X env1 x = some (.c (.str a)) := by rw [h1 x (by rw [ho]; simp [Op.operands, Call.operands])]; exact hx
  have hy' : aeval X env1 y = some (.c (.str b)) := by rw [h1 y (by rw [ho]; simp [Op.operands, Call.operands])]; exact hy
  have rx := aeval_ok (a := act) henv hglob hx'
  have ry := aeval_ok (a := act) henv hglob hy'
  simp only [RelA, Rel] at rx ry
  refine ⟨.int .i64 (strCmp a b), ?_, by simp only [RelA, Rel]⟩
  have hrun : (callFunc f #[act.eval x, act.eval y]).run P w = .ok (.value (.int .i64 (strCmp a b))) w := by
    rw [run_callFunc_extern hf hname hb hn he, rx, ry, Lib.run_compareString]
    simp only [Result.andThen]
    rw [← cmpBytes_eq]
  obtain ⟨dst, op, type, pos, after, guard⟩ := o
  simp only at ho; subst ho
  simpa [execOp, resolve, Deferred.ofValue, invoke, Act.eval] using hrun
theorem AOps.cmpStr {fn : Func} {f : FuncId} (kn : List Nat) (hg : aguard ops.toList kn env o = some true) {args : Array Operand} {ts : Array TypeId} (ho : o.op = .call { callee := .value (.func f), args := args, argTypes := ts }) (hf : P.funcs[f]? = some fn)
    (hname : (fn.name == "runtime.NumGoroutine") = false) (hb : fn.body.isNone = true) (hn : Extern.findNext fn = none) (he : Extern.find fn = some Extern.BytealgCompare.compare)
    {d : Nat} (hd : o.dst = some d) {x y : Operand} (hargs : args = #[x, y]) {a b : List UInt8} (hx : aeval X env x = some (.c (.str a))) (hy : aeval X env y = some (.c (.str b)))
    (k : AOps P X ops rest ((d, .c (.int .i64 (strCmp a b))) :: env) σ (⟨[], []⟩ :: acc) Q) : AOps P X ops (o :: rest) env σ acc Q :=
  AOps.step (guard_in hg) (OpSem.cmpStr hf hname hb hn he ho hargs hx hy) (EffOk.id _) (by rw [hd]; exact k)
end
theorem vSize_eq (k n a : Int) (s : List UInt8) (args : List Vl) (types : List Ty) (code : List Nd) : vSize (.mk k n a s args types code) = 1 + s.length / 8 + vSizes args := rfl
theorem vSizes_nil : vSizes [] = 0 := rfl
theorem vSizes_cons (x : Vl) (l : List Vl) : vSizes (x :: l) = vSize x + vSizes l := rfl
mutual
theorem vSize_size : ∀ t : Vl, vSize t ≤ vlSize t
  | .mk k n a s args types code => by have := vSizes_size args; simp only [vSize, vlSize]; omega
theorem vSizes_size : ∀ l : List Vl, vSizes l ≤ vlsSize l
  | [] => Nat.le_refl _
  | t :: l => by have := vSize_size t; have := vSizes_size l; simp only [vSizes, vlsSize]; omega
end
end Go.Abs
namespace Go.Proofs
open Go.Abs
theorem vls_at {l : List Vl} {i : Nat} {x : Vl} (h : l[i]? = some x) : (encVls l)[i]? = some (encVl x) := by rw [encVls_get, h]; rfl
theorem vls_lt {l : List Vl} {i : Nat} {x : Vl} (h : l[i]? = some x) : decide (((i : Nat) : Int) < (((encVls l).length : Nat) : Int)) = true := dec_lt (by have := lt_of_get h; rw [encVls_length]; omega)
theorem vls_end {l : List Vl} {i : Nat} (h : i = l.length) : decide (((i : Nat) : Int) < (((encVls l).length : Nat) : Int)) = false := dec_ge (by rw [encVls_length]; omega)
theorem addN64 {a b : Nat} (h : a + b < 1099511627776) : some (AV.c (CV.int .i64 (IntKind.i64.wrap ((a : Int) + (b : Int))))) = some (AV.c (CV.int .i64 ((a + b : Nat) : Int))) := by
  rw [w64 (by omega) (by omega)]; rfl
attribute [local irreducible] AK AOps QCalls ECalls vSize vSizes

theorem cmpString_calls (a b : List UInt8) : QCalls Try.prog Try.X 151 [.str a, .str b] (.int .i64 (strCmp a b)) := by
  refine QCalls.of Try.func151 rfl (fun args w => Try.call151 args w) (Nat.le_of_ble_eq_true rfl) [(0, .c (.str a)), (1, .c (.str b))] rfl fun β hβ => ?_; have hf := Try.func151
  repeat' (first | refine sto ?_ | refine uQ hf rfl rfl ?_ | refine AOps.cmpStr kn rfl rfl Try.func154 (by kernel_rfl) (by kernel_rfl) (by kernel_rfl) (by kernel_rfl) rfl rfl rfl rfl ?_)
  all_goals rfl
theorem strCompare_calls (a b : List UInt8) : QCalls Try.prog Try.X 139 [.str a, .str b] (.int .i64 (strCmp a b)) := by
  have h1 := cmpString_calls a b
  refine QCalls.of Try.func139 rfl (fun args w => Try.call139 args w) (Nat.le_of_ble_eq_true rfl) [(0, .c (.str a)), (1, .c (.str b))] rfl fun β hβ => ?_; have hf := Try.func139
  repeat' (first | refine sto ?_ | refine uQ hf rfl rfl ?_ | refine uC rfl h1 ?_)
  all_goals rfl
theorem sign_calls (a b : Int) : QCalls Try.prog Try.X 140 [.int .i64 a, .int .i64 b] (.int .i64 (sgn a b)) := by
  unfold sgn
  by_cases h1 : a < b
  · have c1 : decide (a < b) = true := decide_eq_true h1
    rw [if_pos h1]
    refine QCalls.of Try.func140 rfl (fun args w => Try.call140 args w) (Nat.le_of_ble_eq_true rfl) [(0, .c (.int .i64 a)), (1, .c (.int .i64 b))] rfl fun β hβ => ?_; have hf := Try.func140
    repeat' (first | refine sto ?_ | (refine AK.condS rfl (fun h => ?_) (fun h => ?_) <;> first | (cases h; done) | rw [h] | skip) | refine uQ hf rfl rfl ?_)
    all_goals rfl
  · have c1 : decide (a < b) = false := decide_eq_false h1
    rw [if_neg h1]
    by_cases h2 : a > b
    · have c2 : decide (a > b) = true := decide_eq_true h2
      rw [if_pos h2]
      refine QCalls.of Try.func140 rfl (fun args w => Try.call140 args w) (Nat.le_of_ble_eq_true rfl) [(0, .c (.int .i64 a)), (1, .c (.int .i64 b))] rfl fun β hβ => ?_; have hf := Try.func140
      repeat' (first | refine sto ?_ | (refine AK.condS rfl (fun h => ?_) (fun h => ?_) <;> first | (cases h; done) | rw [h] | skip) | refine uQ hf rfl rfl ?_)
      all_goals rfl
    · have c2 : decide (a > b) = false := decide_eq_false h2
      rw [if_neg h2]
      refine QCalls.of Try.func140 rfl (fun args w => Try.call140 args w) (Nat.le_of_ble_eq_true rfl) [(0, .c (.int .i64 a)), (1, .c (.int .i64 b))] rfl fun β hβ => ?_; have hf := Try.func140
      repeat' (first | refine sto ?_ | (refine AK.condS rfl (fun h => ?_) (fun h => ?_) <;> first | (cases h; done) | rw [h] | skip) | refine uQ hf rfl rfl ?_)
      all_goals rfl
set_option maxHeartbeats 1000000 in
theorem indexVl_calls (l : List Vl) (p : Vl → Bool) (f : FuncId) (caps : List CV) (hp : ∀ x ∈ l, QCalls Try.prog Try.X f (encVl x :: caps) (.bool (p x))) (hlen : l.length ≤ 1099511627776) :
    QCalls Try.prog Try.X 153 [.sl 7 (encVls l), .clo f caps] (.int .i64 (idxOf p l)) := by
  refine QCalls.of Try.func153 rfl (fun args w => Try.call153 args w) (Nat.le_of_ble_eq_true rfl) [(0, .c (.sl 7 (encVls l))), (1, .c (.clo f caps))] rfl fun β hβ => ?_; have hf := Try.func153
  refine AK.runP Try.hX Try.mixed 300 rfl ?_
  refine AK.loopE (α := Nat) (fun i => i ≤ l.length ∧ ∀ (j : Nat) x, j < i → l[j]? = some x → p x = false) (fun i => l.length - i)
    (fun i => [(8, .c (.int .i64 i)), (7, .c (.int .i64 (encVls l).length)), (0, .c (.sl 7 (encVls l))), (1, .c (.clo f caps))]) (fun _ => []) (fun _ => []) [] 0
    ⟨by omega, by intro j x h; omega⟩ ⟨.inl rfl, .inl rfl, .inl rfl, .inl rfl, trivial⟩ trivial trivial rfl rfl rfl ?_
  rintro i ⟨hi, hno⟩ ih
  repeat' (first | refine sto ?_ | (refine AK.condS rfl (fun h => ?_) (fun h => ?_) <;> first | (cases h; done) | rw [h] | skip) | refine uQ hf rfl rfl ?_)
  · have hlt : i < l.length := by simpa [encVls_length] using h
    obtain ⟨⟨a1, a2, a3, a4, a5, a6, a7⟩, hx⟩ : ∃ x, l[i]? = some x := ⟨l[i], by simp [hlt]⟩
    refine AOps.index Try.hX rfl rfl rfl rfl rfl rfl rfl rfl rfl rfl i rfl (by rw [encVls_get, hx]; rfl) rfl ?_
    repeat' (first | refine sto ?_ | (refine AK.condS rfl (fun h => ?_) (fun h => ?_) <;> first | (cases h; done) | rw [h] | skip) | refine uQ hf rfl rfl ?_ | refine uC rfl (hp ⟨a1, a2, a3, a4, a5, a6, a7⟩ (List.mem_of_getElem? hx)) ?_)
    · rw [idxOf_first p l i ⟨a1, a2, a3, a4, a5, a6, a7⟩ hx h hno]
    · have hp' := h
      have ih' := ih (i + 1) ⟨by omega, fun j x hj hjx => by
        by_cases hji : j = i
        · subst hji; rw [hx] at hjx; simp at hjx; subst hjx; exact hp'
        · exact hno j x (by omega) hjx⟩ (by omega)
      refine AK.again ih' ⟨.inl ?_, .inl rfl, .inl rfl, .inl rfl, trivial⟩ trivial trivial rfl rfl rfl
      rw [w64 (by omega) (by omega)]; rfl
  · have hge : l.length ≤ i := by simpa [encVls_length] using h
    rw [idxOf_none p l fun j y hy => hno j y (by have := (List.getElem?_eq_some_iff.1 hy).1; omega) hy]

theorem containsVl_calls (l : List Vl) (p : Vl → Bool) (f : FuncId) (caps : List CV) (hp : ∀ x ∈ l, QCalls Try.prog Try.X f (encVl x :: caps) (.bool (p x))) (hlen : l.length ≤ 1099511627776) :
    QCalls Try.prog Try.X 149 [.sl 7 (encVls l), .clo f caps] (.bool (l.any p)) := by
  refine QCalls.of Try.func149 rfl (fun args w => Try.call149 args w) (Nat.le_of_ble_eq_true rfl) [(0, .c (.sl 7 (encVls l))), (1, .c (.clo f caps))] rfl fun β hβ => ?_; have hf := Try.func149
  repeat' (first | refine sto ?_ | refine uQ hf rfl rfl ?_ | refine uC rfl (indexVl_calls l p f caps hp hlen) ?_)
  rw [idxOf_any]

set_option maxHeartbeats 0 in
theorem Size_calls : ∀ (t : Vl), vlSize t ≤ 1048577 → QCalls Try.prog Try.X 72 [encVl t] (.int .i64 (vSize t))
  | .mk k n a s args types code, ht => by
    have hms := vSizes_size args
    simp only [vlSize] at ht
    have hl1 := vlsSize_len args
    have hin : ∀ x ∈ args, QCalls Try.prog Try.X 72 [encVl x] (.int .i64 (vSize x)) := fun x hx => Size_calls x (by have := vlsSize_mem hx; omega)
    have e0 : IntKind.i64.wrap (1 + IntKind.i64.wrap (((s.length : Nat) : Int).tdiv 8)) = ((1 + s.length / 8 : Nat) : Int) := by
      rw [show (8 : Int) = ((8 : Nat) : Int) from rfl, ← Int.ofNat_tdiv, w64 (n := ((s.length / 8 : Nat) : Int)) (by omega) (by omega), w64 (by omega) (by omega)]; omega
    rw [vSize_eq]
    refine QCalls.of Try.func72 rfl (fun args w => Try.call72 args w) (Nat.le_of_ble_eq_true rfl) [(0, .c (encVl (.mk k n a s args types code)))] rfl fun β hβ => ?_; have hf := Try.func72
    repeat' (first | refine sto ?_ | (refine AK.condS rfl (fun h => ?_) (fun h => ?_) <;> first | (cases h; done) | rw [h] | skip) | refine uQ hf rfl rfl ?_)
    refine AK.loopE (α := Nat × Nat) (fun z => z.1 ≤ args.length ∧ 1 + s.length / 8 + vSizes args = z.2 + vSizes (args.drop z.1)) (fun z => args.length - z.1)
      (fun z => [(14, .c (.int .i64 z.1)), (13, .c (.int .i64 (encVls args).length)), (12, .c (.sl 7 (encVls args))), (3, .c (.int .i64 z.2))]) (fun _ => []) (fun _ => []) [] (0, 1 + s.length / 8)
      ⟨by omega, by rw [List.drop_zero]⟩ ⟨.inl rfl, .inl rfl, .inl rfl, .inl (congrArg (fun z => some (AV.c (CV.int .i64 z))) e0), trivial⟩ trivial trivial rfl rfl rfl ?_
    rintro ⟨i, m⟩ ⟨hi, hinv⟩ ih
    simp only at hi hinv
    rcases get_or args i hi with ⟨x, hx, hm⟩ | he
    · have hc := vls_lt hx
      have hq := hin x hm
      rw [drop_at hx, vSizes_cons] at hinv
      have h2 := lt_of_get hx
      generalize vSize x = q at hq hinv
      obtain ⟨x1, x2, x3, x4, x5, x6, x7⟩ := x
      repeat' (first | refine sto ?_ | (refine AK.condS rfl (fun h => ?_) (fun h => ?_) <;> first | (cases h; done) | rw [h] | skip) | refine uQ hf rfl rfl ?_ | refine uI rfl (i) rfl (vls_at hx) rfl ?_ | refine uC rfl hq ?_)
      refine AK.again (ih (i + 1, m + q) ⟨h2, by show 1 + s.length / 8 + vSizes args = m + q + vSizes (args.drop (i + 1)); omega⟩ (by show args.length - (i + 1) < args.length - i; omega)) ⟨.inl (succ64 (by omega)), .inl rfl, .inl rfl, .inl (addN64 (a := m) (b := q) (by omega)), trivial⟩ trivial trivial rfl rfl rfl
    · have hc := vls_end he
      have h0 : 1 + s.length / 8 + vSizes args = m := by rw [hinv, he, List.drop_length, vSizes_nil, Nat.add_zero]
      clear ih
      repeat' (first | refine sto ?_ | (refine AK.condS rfl (fun h => ?_) (fun h => ?_) <;> first | (cases h; done) | rw [h] | skip) | refine uQ hf rfl rfl ?_)
      show (_ : CV) = _
      rw [h0]
termination_by t => SizeOf.sizeOf t
decreasing_by
  have := List.sizeOf_lt_of_mem hx
  simp at this ⊢; omega

end Go.Proofs

set_option linter.unusedVariables false
set_option linter.unusedSimpArgs false
namespace Go.Proofs
open Go.Abs

attribute [local irreducible] AK AOps QCalls

def nIn (n : Int) : Bool := decide (n ≥ -1152921504606846976) && decide (n ≤ 1152921504606846976)
def nAbs (n : Int) : Int × Int := if nIn n = true then (if n < 0 then -n else n, 0) else (0, 2)
def nBound (n : Int) : Int × Int := if nIn n = true then (n, 0) else (0, 11)
def nAdd (a b : Int) : Int × Int := if nIn a = true ∧ nIn b = true then nBound (a + b) else (0, 2)
def nSub (a b : Int) : Int × Int := if nIn a = true ∧ nIn b = true then nBound (a - b) else (0, 2)
def nMul (a b : Int) : Int × Int := if nIn a = true ∧ nIn b = true then nBound (a * b) else (0, 2)
def nEdiv (a b : Int) : Int × Int × Int := if nIn a = true ∧ nIn b = true then (if b = 0 then (0, 0, 6) else (a / b, a % b, 0)) else (0, 0, 2)

theorem nIn_iff {n : Int} : nIn n = true ↔ -1152921504606846976 ≤ n ∧ n ≤ 1152921504606846976 := by simp [nIn]

theorem In_calls (n : Int) : QCalls Try.prog Try.X 27 [.int .i64 n] (.bool (nIn n)) := by
  refine QCalls.of Try.func27 rfl (fun args w => Try.call27 args w) (Nat.le_of_ble_eq_true rfl) [(0, .c (.int .i64 n))] rfl fun β hβ => ?_; have hf := Try.func27
  repeat' (first | refine st ?_ | refine uQ hf rfl rfl ?_ | ((first | refine AOps.splitT rfl rfl rfl asm (fun h => ?_) | refine AOps.splitF rfl rfl rfl asm (fun h => ?_) | refine AOps.split rfl rfl rfl (fun h => ?_) (fun h => ?_)) <;> (fail_if_success (cases h; done)) <;> rw [h]))
  all_goals (simp_all [nIn]; try omega)

abbrev two (x : Int × Int) : CV := .tup [.int .i64 x.1, .int .i64 x.2]
abbrev three (x : Int × Int × Int) : CV := .tup [.int .i64 x.1, .int .i64 x.2.1, .int .i64 x.2.2]

end Go.Proofs
