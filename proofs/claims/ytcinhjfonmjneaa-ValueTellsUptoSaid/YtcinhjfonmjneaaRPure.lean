/- Package tree's reader as plain functions, step for step, and that it answers as trees are read. -/
import Derived.Test.YtcinhjfonmjneaaTPure
set_option linter.unusedVariables false
set_option linter.unusedSimpArgs false
namespace Go.Abs

/-- What number gives, what it leaves, whether it went wrong. -/
def numVal : List UInt8 → Int
  | [] => 0
  | b :: s => match takeFirst b s with
    | none => 0
    | some (n, _) => if b.toNat / 64 % 2 = 1 then -(n : Int) else n
def numRest (s : List UInt8) : List UInt8 := match takeNum s with
  | some (_, r) => r
  | none => []
def numErr (s : List UInt8) : Int := match takeNum s with
  | some _ => 0
  | none => 1

structure RX where
  n : Nd
  s : List UInt8
  k : Int
  e : Int

def rdRowX (f : List UInt8 → Int → RX) : Nat → List UInt8 → Int → Int → List Nd × List UInt8 × Int × Int
  | 0, s, k, e => ([], s, k, e)
  | v + 1, s, k, e => if e ≠ 0 then ([], s, k, e) else
    ((f s k).n :: (rdRowX f v (f s k).s (f s k).k (f s k).e).1, (rdRowX f v (f s k).s (f s k).k (f s k).e).2)

def rdArgsX (f : List UInt8 → Int → RX) (kind p : Int) (s : List UInt8) (k : Int) : RX :=
  if numErr s ≠ 0 ∨ numVal s < 0 then ⟨.mk kind 0 p [] [], [], k, 1⟩ else
    ⟨.mk kind 0 p [] (rdRowX f (numVal s).toNat (numRest s) k 0).1, (rdRowX f (numVal s).toNat (numRest s) k 0).2.1, (rdRowX f (numVal s).toNat (numRest s) k 0).2.2.1, (rdRowX f (numVal s).toNat (numRest s) k 0).2.2.2⟩

def rdBodyX (f : List UInt8 → Int → RX) (c : Nat) (s : List UInt8) (k : Int) : RX :=
  if c = 0 then ⟨.mk 0 (numVal s) 0 [] [], numRest s, k, numErr s⟩
  else if c = 1 then (if numVal s < 0 ∨ numVal s > 200 ∨ numVal s > (numRest s).length then ⟨.mk 1 0 0 [] [], [], k, 1⟩ else ⟨.mk 1 0 0 ((numRest s).take (numVal s).toNat) [], (numRest s).drop (numVal s).toNat, k, numErr s⟩)
  else if c = 2 then (match s with
    | [] => ⟨.mk 2 0 0 [] [], [], k, 1⟩
    | p :: s2 => if primP p.toNat = true then rdArgsX f 2 p.toNat s2 k else ⟨.mk 2 0 p.toNat [] [], [], k, 1⟩)
  else if c = 3 then rdArgsX f 3 0 s k
  else ⟨.mk c 0 0 [] [], [], k, 1⟩

def rdX : Nat → List UInt8 → Int → RX
  | 0, _, k => ⟨nd0, [], k + 1, 4⟩
  | g + 1, s, k => if k + 1 > 300 then ⟨nd0, [], k + 1, 4⟩ else match s with
    | [] => ⟨nd0, [], k + 1, 1⟩
    | c :: s' => rdBodyX (rdX g) c.toNat s' (k + 1)

/-- What was read by the one is what was read by the other. -/
def Like (x : RX) : Rd Nd → Prop
  | .ok n r l => x = ⟨n, r, 300 - (l : Int), 0⟩ ∧ l ≤ 300
  | .no e => x.s = [] ∧ x.e = e ∧ e ≠ 0

end Go.Abs
