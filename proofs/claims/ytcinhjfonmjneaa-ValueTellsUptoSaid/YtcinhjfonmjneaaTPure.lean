/- Package tree and its reference, as plain functions, and their laws. -/
import Derived.Test.YtcinhjfonmjneaaKPure
set_option linter.unusedVariables false
set_option linter.unusedSimpArgs false
namespace Go.Abs

abbrev maxI : Int := 1152921504606846976

def primP (p : Int) : Bool := decide ((1 ≤ p ∧ p ≤ 15) ∨ (20 ≤ p ∧ p ≤ 28) ∨ (40 ≤ p ∧ p ≤ 95))

/-- What is wrong with a node by itself, at a depth. -/
def wrong1 (kind n p : Int) (s : List UInt8) (k : Nat) (d : Int) : Int :=
  if d > 24 then 4
  else if kind < 0 ∨ kind > 3 ∨ kind = 2 ∧ primP p = false then 3
  else if kind ≠ 0 ∧ n ≠ 0 ∨ kind ≠ 2 ∧ p ≠ 0 ∨ kind ≠ 1 ∧ s ≠ [] ∨ kind < 2 ∧ 0 < k then 1
  else if n < -maxI ∨ n > maxI then 2
  else if 200 < s.length then 4 else 0

mutual
def wrong : Nd → Int → Int
  | .mk kind n p s args, d => if wrong1 kind n p s args.length d = 0 then wrongs args (d + 1) else wrong1 kind n p s args.length d
def wrongs : List Nd → Int → Int
  | [], _ => 0
  | x :: l, d => if wrong x d = 0 then wrongs l d else wrong x d
end
mutual
def many : Nd → Nat
  | .mk _ _ _ _ args => manys args + 1
def manys : List Nd → Nat
  | [] => 0
  | x :: l => many x + manys l
end
def tGoodN (n : Nd) : Int := if wrong n 1 = 0 then (if 300 < many n then 4 else 0) else wrong n 1

/-- The bytes of a number: the first rest, then what is above it. -/
def putB (c m : Nat) : List UInt8 :=
  if m = 0 then [byteOf (c : Nat)] else byteOf ((c + 128 : Nat) : Int) :: putB (m % 128) (m / 128)
termination_by m
decreasing_by omega

def numB (n : Int) : List UInt8 := putB ((if n < 0 then 64 else 0) + n.natAbs % 64) (n.natAbs / 64)

mutual
/-- A tree's bytes. -/
def bytesN : Nd → List UInt8
  | .mk kind n p s args =>
    if kind = 0 then byteOf kind :: numB n
    else if kind = 1 then byteOf kind :: (numB (s.length : Int) ++ s)
    else if kind = 2 then byteOf kind :: byteOf p :: (numB (args.length : Int) ++ bytesNs args)
    else byteOf kind :: (numB (args.length : Int) ++ bytesNs args)
def bytesNs : List Nd → List UInt8
  | [] => []
  | x :: l => bytesN x ++ bytesNs l
end
def tEncode (n : Nd) : List UInt8 × Int := if tGoodN n = 0 then (bytesN n, 0) else ([], tGoodN n)

-- numbers read
def takeB : List UInt8 → Nat → Nat → Option (Nat × List UInt8)
  | [], _, _ => none
  | b :: s, n, sh => if b.toNat = 0 ∨ sh > 55 then none
    else if b.toNat ≥ 128 then takeB s (n + b.toNat % 128 * 2 ^ sh) (sh + 7) else some (n + b.toNat % 128 * 2 ^ sh, s)
def takeFirst (b : UInt8) (s : List UInt8) : Option (Nat × List UInt8) := if b.toNat ≥ 128 then takeB s (b.toNat % 64) 6 else some (b.toNat % 64, s)
def takeNum : List UInt8 → Option (Int × List UInt8)
  | [] => none
  | b :: s => match takeFirst b s with
    | none => none
    | some (n, r) => if (b.toNat / 64 % 2 = 1 ∧ n = 0) ∨ n > 1152921504606846976 then none else some (if b.toNat / 64 % 2 = 1 then -(n : Int) else n, r)

theorem byteOf_nat (c : Nat) (h : c < 256) : (byteOf (c : Int)).toNat = c := by
  have := byteOf_val (c : Int)
  rw [show IntKind.u8.wrap (c : Int) = c from by simp [IntKind.wrap, IntKind.bits, IntKind.signed]; omega] at this
  omega
theorem putB_zero (c : Nat) : putB c 0 = [byteOf (c : Nat)] := by rw [putB]; simp
theorem putB_more (c m : Nat) (h : m ≠ 0) : putB c m = byteOf ((c + 128 : Nat) : Int) :: putB (m % 128) (m / 128) := by rw [putB, if_neg h]

-- trees read
inductive Rd (α : Type) where
  | ok (a : α) (s : List UInt8) (left : Nat)
  | no (e : Int)

def rdRow (f : List UInt8 → Nat → Rd Nd) : Nat → List UInt8 → Nat → Rd (List Nd)
  | 0, s, left => .ok [] s left
  | k + 1, s, left => match f s left with
    | .no e => .no e
    | .ok x s' left' => match rdRow f k s' left' with
      | .no e => .no e
      | .ok l s2 left2 => .ok (x :: l) s2 left2

/-- The arguments of a node. -/
def rdArgs (f : List UInt8 → Nat → Rd Nd) (kind p : Int) (s : List UInt8) (left : Nat) : Rd Nd :=
  match takeNum s with
  | none => .no 1
  | some (k, s') => if k < 0 then .no 1 else match rdRow f k.toNat s' left with
    | .no e => .no e
    | .ok l s2 left2 => .ok (.mk kind 0 p [] l) s2 left2

/-- A node behind its kind. -/
def rdBody (f : List UInt8 → Nat → Rd Nd) (c : Nat) (s : List UInt8) (left : Nat) : Rd Nd :=
  if c = 0 then (match takeNum s with
    | none => .no 1
    | some (n, s') => .ok (.mk 0 n 0 [] []) s' left)
  else if c = 1 then (match takeNum s with
    | none => .no 1
    | some (n, s') => if n < 0 ∨ n > 200 ∨ n > s'.length then .no 1 else .ok (.mk 1 0 0 (s'.take n.toNat) []) (s'.drop n.toNat) left)
  else if c = 2 then (match s with
    | [] => .no 1
    | p :: s' => if primP p.toNat = true then rdArgs f 2 p.toNat s' left else .no 1)
  else if c = 3 then rdArgs f 3 0 s left
  else .no 1

def rdNode : Nat → List UInt8 → Nat → Rd Nd
  | 0, _, _ => .no 4
  | g + 1, s, left => if left = 0 then .no 4 else match s with
    | [] => .no 1
    | c :: s' => rdBody (rdNode g) c.toNat s' (left - 1)

def tDecode (s : List UInt8) : Nd × Int := match rdNode 24 s 300 with
  | .no e => (nd0, e)
  | .ok n r _ => if r = [] then (n, 0) else (nd0, 1)

theorem wrong_eq {kind n p : Int} {s : List UInt8} {args : List Nd} {d : Int} (h : wrong (.mk kind n p s args) d = 0) : wrong1 kind n p s args.length d = 0 ∧ wrongs args (d + 1) = 0 := by
  simp only [wrong] at h
  by_cases hh : wrong1 kind n p s args.length d = 0
  · rw [if_pos hh] at h; exact ⟨hh, h⟩
  · rw [if_neg hh] at h; exact absurd h hh

theorem wrong1_eq {kind n p : Int} {s : List UInt8} {k : Nat} {d : Int} (h : wrong1 kind n p s k d = 0) :
    d ≤ 24 ∧ (kind = 0 ∨ kind = 1 ∨ kind = 2 ∧ primP p = true ∨ kind = 3) ∧ (kind ≠ 0 → n = 0) ∧ (kind ≠ 2 → p = 0) ∧ (kind ≠ 1 → s = []) ∧ (kind < 2 → k = 0) ∧ -maxI ≤ n ∧ n ≤ maxI ∧ s.length ≤ 200 := by
  unfold wrong1 at h
  split at h
  · omega
  · split at h
    · omega
    · split at h
      · omega
      · split at h
        · omega
        · split at h
          · omega
          · rename_i h1 h2 h3 h4 h5
            simp only [not_or, not_and, ne_eq, Decidable.not_not, Bool.not_eq_false, Int.not_lt, Nat.not_lt] at h1 h2 h3 h4 h5
            refine ⟨by omega, ?_, h3.1, h3.2.1, h3.2.2.1, fun hk => by have := h3.2.2.2 hk; omega, by omega, by omega, h5⟩
            by_cases hk : kind = 2
            · right; right; left; exact ⟨hk, h2.2.2 hk⟩
            · omega

theorem tGoodN_zero {n : Nd} : tGoodN n = 0 ↔ wrong n 1 = 0 ∧ many n ≤ 300 := by
  unfold tGoodN
  split
  · rename_i h; split <;> simp [h] <;> omega
  · rename_i h; simp [h]

end Go.Abs
