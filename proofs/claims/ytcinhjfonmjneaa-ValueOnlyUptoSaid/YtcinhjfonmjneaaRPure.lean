/- Package tree's reader as plain functions, step for step, and that it answers as trees are read. -/
import Derived.Test.YtcinhjfonmjneaaTPure
set_option linter.unusedVariables false
set_option linter.unusedSimpArgs false
namespace Go.Abs

/-- What number gives, what it leaves, whether it went wrong. -/
def numVal : List UInt8 → Int
  | [] => 0
  | b :: s => match takeFirst b s with
    | none => 0
    | some (n, _) => if b.toNat / 64 % 2 = 1 then -(n : Int) else n
def numRest (s : List UInt8) : List UInt8 := match takeNum s with
  | some (_, r) => r
  | none => []
def numErr (s : List UInt8) : Int := match takeNum s with
  | some _ => 0
  | none => 1

structure RX where
  n : Nd
  s : List UInt8
  k : Int
  e : Int

def rdRowX (f : List UInt8 → Int → RX) : Nat → List UInt8 → Int → Int → List Nd × List UInt8 × Int × Int
  | 0, s, k, e => ([], s, k, e)
  | v + 1, s, k, e => if e ≠ 0 then ([], s, k, e) else
    ((f s k).n :: (rdRowX f v (f s k).s (f s k).k (f s k).e).1, (rdRowX f v (f s k).s (f s k).k (f s k).e).2)

def rdArgsX (f : List UInt8 → Int → RX) (kind p : Int) (s : List UInt8) (k : Int) : RX :=
  if numErr s ≠ 0 ∨ numVal s < 0 then ⟨.mk kind 0 p [] [], [], k, 1⟩ else
    ⟨.mk kind 0 p [] (rdRowX f (numVal s).toNat (numRest s) k 0).1, (rdRowX f (numVal s).toNat (numRest s) k 0).2.1, (rdRowX f (numVal s).toNat (numRest s) k 0).2.2.1, (rdRowX f (numVal s).toNat (numRest s) k 0).2.2.2⟩

def rdBodyX (f : List UInt8 → Int → RX) (c : Nat) (s : List UInt8) (k : Int) : RX :=
  if c = 0 then ⟨.mk 0 (numVal s) 0 [] [], numRest s, k, numErr s⟩
  else if c = 1 then (if numVal s < 0 ∨ numVal s > 200 ∨ numVal s > (numRest s).length then ⟨.mk 1 0 0 [] [], [], k, 1⟩ else ⟨.mk 1 0 0 ((numRest s).take (numVal s).toNat) [], (numRest s).drop (numVal s).toNat, k, numErr s⟩)
  else if c = 2 then (match s with
    | [] => ⟨.mk 2 0 0 [] [], [], k, 1⟩
    | p :: s2 => if primP p.toNat = true then rdArgsX f 2 p.toNat s2 k else ⟨.mk 2 0 p.toNat [] [], [], k, 1⟩)
  else if c = 3 then rdArgsX f 3 0 s k
  else ⟨.mk c 0 0 [] [], [], k, 1⟩

def rdX : Nat → List UInt8 → Int → RX
  | 0, _, k => ⟨nd0, [], k + 1, 4⟩
  | g + 1, s, k => if k + 1 > 300 then ⟨nd0, [], k + 1, 4⟩ else match s with
    | [] => ⟨nd0, [], k + 1, 1⟩
    | c :: s' => rdBodyX (rdX g) c.toNat s' (k + 1)

theorem num_some {s : List UInt8} {n : Int} {r : List UInt8} (h : takeNum s = some (n, r)) : numVal s = n ∧ numRest s = r ∧ numErr s = 0 := by
  refine ⟨?_, by simp [numRest, h], by simp [numErr, h]⟩
  cases s with
  | nil => simp [takeNum] at h
  | cons b s =>
    simp only [takeNum] at h
    simp only [numVal]
    split at h
    · simp at h
    · rename_i v r' hv
      rw [hv]
      split at h
      · simp at h
      · simp at h; exact h.1
theorem num_none {s : List UInt8} (h : takeNum s = none) : numRest s = [] ∧ numErr s = 1 := ⟨by simp [numRest, h], by simp [numErr, h]⟩

/-- What was read by the one is what was read by the other. -/
def Like (x : RX) : Rd Nd → Prop
  | .ok n r l => x = ⟨n, r, 300 - (l : Int), 0⟩ ∧ l ≤ 300
  | .no e => x.s = [] ∧ x.e = e ∧ e ≠ 0

theorem rdX_like : ∀ (g : Nat) (s : List UInt8) (left : Nat), left ≤ 300 → Like (rdX g s (300 - (left : Int))) (rdNode g s left)
  | 0, s, left, hl => by simp [rdX, rdNode, Like]
  | g + 1, s, left, hl => by
    have hrow : ∀ (v : Nat) (s : List UInt8) (left : Nat), left ≤ 300 → match rdRow (rdNode g) v s left with
        | .ok l r left' => rdRowX (rdX g) v s (300 - (left : Int)) 0 = (l, r, 300 - (left' : Int), 0) ∧ left' ≤ 300
        | .no e => (rdRowX (rdX g) v s (300 - (left : Int)) 0).2.1 = [] ∧ (rdRowX (rdX g) v s (300 - (left : Int)) 0).2.2.2 = e ∧ e ≠ 0 := by
      intro v
      induction v with
      | zero => intro s left hl; simp [rdRow, rdRowX, hl]
      | succ v ih =>
        intro s left hl
        have h1 := rdX_like g s left hl
        simp only [rdRow, rdRowX]
        rw [if_neg (by simp)]
        cases hr : rdNode g s left with
        | no e =>
          rw [hr] at h1
          simp only [Like] at h1
          simp only
          rw [h1.1, h1.2.1]
          cases v with
          | zero => simp [rdRowX, h1.2.2]
          | succ v => simp [rdRowX, h1.2.2]
        | ok n r l =>
          rw [hr] at h1
          simp only [Like] at h1
          rw [h1.1]
          have h2 := ih r l h1.2
          simp only
          cases hr2 : rdRow (rdNode g) v r l with
          | no e => rw [hr2] at h2; simp only at h2 ⊢; exact h2
          | ok l2 r2 left2 => rw [hr2] at h2; simp only at h2 ⊢; rw [h2.1]; exact ⟨rfl, h2.2⟩
    have hargs : ∀ (kind p : Int) (s : List UInt8) (left : Nat), left ≤ 300 → Like (rdArgsX (rdX g) kind p s (300 - (left : Int))) (rdArgs (rdNode g) kind p s left) := by
      intro kind p s left hl
      unfold rdArgs rdArgsX
      cases hn : takeNum s with
      | none => simp [(num_none hn).2, Like]
      | some x =>
        obtain ⟨n, r⟩ := x
        obtain ⟨e1, e2, e3⟩ := num_some hn
        rw [e1, e2, e3]
        simp only
        by_cases h0 : n < 0
        · rw [if_pos h0, if_pos (.inr h0)]; simp [Like]
        · rw [if_neg h0, if_neg (by simp; omega)]
          have h2 := hrow n.toNat r left hl
          cases hr : rdRow (rdNode g) n.toNat r left with
          | no e => rw [hr] at h2; simp only at h2 ⊢; simp only [Like]; exact h2
          | ok l2 r2 left2 => rw [hr] at h2; simp only at h2 ⊢; simp only [Like]; rw [h2.1]; exact ⟨rfl, h2.2⟩
    simp only [rdNode, rdX]
    by_cases hl0 : left = 0
    · subst hl0; simp [Like]
    · rw [if_neg hl0, if_neg (by omega)]
      cases s with
      | nil => simp [Like]
      | cons c s =>
        simp only
        have ek : 300 - (left : Int) + 1 = 300 - ((left - 1 : Nat) : Int) := by omega
        rw [ek]
        unfold rdBodyX rdBody
        split
        · cases hn : takeNum s with
          | none => simp [(num_none hn).1, (num_none hn).2, Like]
          | some x =>
            obtain ⟨n, r⟩ := x
            obtain ⟨e1, e2, e3⟩ := num_some hn
            rw [e1, e2, e3]; simp only [Like]; exact ⟨trivial, by omega⟩
        · split
          · cases hn : takeNum s with
            | none =>
              rw [(num_none hn).1, (num_none hn).2]
              split <;> simp [Like]
            | some x =>
              obtain ⟨n, r⟩ := x
              obtain ⟨e1, e2, e3⟩ := num_some hn
              rw [e1, e2, e3]
              simp only
              split
              · simp [Like]
              · simp only [Like]; exact ⟨trivial, by omega⟩
          · split
            · cases s with
              | nil => simp [Like]
              | cons p s =>
                simp only
                split
                · exact hargs 2 _ s (left - 1) (by omega)
                · simp [Like]
            · split
              · exact hargs 3 0 s (left - 1) (by omega)
              · simp [Like]

theorem rdX_le : ∀ (g : Nat) (s : List UInt8) (k : Int), 0 ≤ k → k ≤ 300 → k + 1 ≤ (rdX g s k).k ∧ (rdX g s k).k ≤ 301 ∧ ((rdX g s k).e = 0 → (rdX g s k).k ≤ 300)
  | 0, s, k, h0, h1 => by simp [rdX]; omega
  | g + 1, s, k, h0, h1 => by
    have hrow : ∀ (v : Nat) (s : List UInt8) (k : Int), 0 ≤ k → k ≤ 300 → k + (rdRowX (rdX g) v s k 0).1.length ≤ (rdRowX (rdX g) v s k 0).2.2.1 ∧ (rdRowX (rdX g) v s k 0).2.2.1 ≤ 301 ∧ ((rdRowX (rdX g) v s k 0).2.2.2 = 0 → (rdRowX (rdX g) v s k 0).2.2.1 ≤ 300) := by
      intro v
      induction v with
      | zero => intro s k h0 h1; simp [rdRowX]; omega
      | succ v ih =>
        intro s k h0 h1
        have h2 := rdX_le g s k h0 h1
        simp only [rdRowX]
        rw [if_neg (by simp)]
        by_cases he : (rdX g s k).e = 0
        · rw [he]
          have h3 := ih (rdX g s k).s (rdX g s k).k (by omega) (h2.2.2 he)
          simp only [List.length_cons]
          refine ⟨by omega, h3.2.1, h3.2.2⟩
        · have e2 : rdRowX (rdX g) v (rdX g s k).s (rdX g s k).k (rdX g s k).e = ([], (rdX g s k).s, (rdX g s k).k, (rdX g s k).e) := by
            cases v with
            | zero => rfl
            | succ v => simp only [rdRowX]; rw [if_pos he]
          rw [e2]
          simp only [List.length_cons, List.length_nil]
          exact ⟨by omega, h2.2.1, fun h => absurd h he⟩
    have hargs : ∀ (kind p : Int) (s : List UInt8) (k : Int), 0 ≤ k → k ≤ 300 → k ≤ (rdArgsX (rdX g) kind p s k).k ∧ (rdArgsX (rdX g) kind p s k).k ≤ 301 ∧ ((rdArgsX (rdX g) kind p s k).e = 0 → (rdArgsX (rdX g) kind p s k).k ≤ 300) := by
      intro kind p s k h0 h1
      unfold rdArgsX
      split
      · simp; omega
      · have := hrow (numVal s).toNat (numRest s) k h0 h1
        simp only
        refine ⟨by omega, this.2⟩
    simp only [rdX]
    split
    · simp; omega
    · rename_i hk
      cases s with
      | nil => simp; omega
      | cons c s =>
        simp only
        unfold rdBodyX
        split
        · simp only; omega
        · split
          · split
            · simp; omega
            · simp only; omega
          · split
            · cases s with
              | nil => simp; omega
              | cons p s =>
                simp only
                split
                · exact hargs 2 _ s (k + 1) (by omega) (by omega)
                · simp; omega
            · split
              · exact hargs 3 0 s (k + 1) (by omega) (by omega)
              · simp; omega
end Go.Abs
