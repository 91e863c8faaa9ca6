/- Numbers as bytes, read from the front: what they come to, how they end. -/
import Derived.Test.YtcinhjfonmjneaaTPure
set_option linter.unusedVariables false
set_option linter.unusedSimpArgs false
namespace Go.Abs

/-- Seven bits each, the lowest first. -/
def valT : List UInt8 → Nat
  | [] => 0
  | b :: l => b.toNat % 128 + 128 * valT l
/-- Likewise, six bits first. -/
def val : List UInt8 → Nat
  | [] => 0
  | b :: l => b.toNat % 64 + 64 * valT l
def wtT (i : Nat) : Nat := 128 ^ i
def wt : Nat → Nat
  | 0 => 1
  | i + 1 => 64 * 128 ^ i
theorem valT_snoc : ∀ (l : List UInt8) (b : UInt8), valT (l ++ [b]) = valT l + b.toNat % 128 * 128 ^ l.length
  | [], b => by simp [valT]
  | x :: l, b => by
    simp only [List.cons_append, valT, valT_snoc l b, List.length_cons, Nat.pow_succ, Nat.mul_add]
    rw [show 128 * (b.toNat % 128 * 128 ^ l.length) = b.toNat % 128 * (128 ^ l.length * 128) by rw [Nat.mul_comm (128 ^ l.length) 128, ← Nat.mul_assoc, ← Nat.mul_assoc, Nat.mul_comm 128 (b.toNat % 128)]]
    omega
theorem val_first (b : UInt8) : val [b] = b.toNat % 64 := by simp [val, valT]
theorem val_snoc (l : List UInt8) (b : UInt8) (h : l ≠ []) : val (l ++ [b]) = val l + b.toNat % 128 * wt l.length := by
  cases l with
  | nil => exact absurd rfl h
  | cons x l =>
    simp only [List.cons_append, val, valT_snoc, List.length_cons, wt, Nat.mul_add]
    rw [show 64 * (b.toNat % 128 * 128 ^ l.length) = b.toNat % 128 * (64 * 128 ^ l.length) by rw [← Nat.mul_assoc, ← Nat.mul_assoc, Nat.mul_comm 64 (b.toNat % 128)]]
    omega
theorem valT_lt : ∀ (l : List UInt8), valT l < 128 ^ l.length
  | [] => by simp [valT]
  | b :: l => by
    have := valT_lt l
    simp only [valT, List.length_cons, Nat.pow_succ]
    have : b.toNat % 128 < 128 := Nat.mod_lt _ (by omega)
    omega
theorem val_lt : ∀ (l : List UInt8), val l < wt l.length
  | [] => by simp [val, wt]
  | b :: l => by
    have := valT_lt l
    simp only [val, List.length_cons, wt]
    have : b.toNat % 64 < 64 := Nat.mod_lt _ (by omega)
    omega

/-- Bytes that go on, then one that does not. -/
def endB : List UInt8 → Prop
  | [] => False
  | [b] => b.toNat < 128
  | b :: l => 128 ≤ b.toNat ∧ endB l
theorem endB_cons {b : UInt8} {l : List UInt8} (h : l ≠ []) : endB (b :: l) ↔ 128 ≤ b.toNat ∧ endB l := by
  cases l with
  | nil => exact absurd rfl h
  | cons x l => rfl
theorem putB_ne (c m : Nat) : putB c m ≠ [] := by rw [putB]; split <;> simp
theorem putB_end : ∀ (m c : Nat), c < 128 → endB (putB c m)
  | m, c, hc => by
    by_cases h : m = 0
    · subst h; rw [putB_zero]
      show (byteOf (c : Nat)).toNat < 128
      rw [byteOf_nat c (by omega)]; exact hc
    · rw [putB_more c m h, endB_cons (putB_ne _ _), byteOf_nat _ (by omega)]
      exact ⟨by omega, putB_end (m / 128) (m % 128) (Nat.mod_lt _ (by omega))⟩
termination_by m => m
decreasing_by omega
theorem putB_valT : ∀ (m c : Nat), c < 128 → valT (putB c m) = c + 128 * m
  | m, c, hc => by
    by_cases h : m = 0
    · subst h; rw [putB_zero]
      simp only [valT, byteOf_nat c (by omega)]; omega
    · rw [putB_more c m h]
      simp only [valT]
      rw [byteOf_nat _ (by omega), putB_valT (m / 128) (m % 128) (Nat.mod_lt _ (by omega))]
      omega
termination_by m => m
decreasing_by omega
theorem putB_len : ∀ (d m c : Nat), m < 128 ^ d → (putB c m).length ≤ d + 1
  | d, m, c, hm => by
    by_cases h : m = 0
    · subst h; rw [putB_zero]; simp
    · rw [putB_more c m h]
      cases d with
      | zero => simp at hm; omega
      | succ d =>
        have := putB_len d (m / 128) (m % 128) (by rw [Nat.pow_succ] at hm; omega)
        simp only [List.length_cons]; omega
/-- The first byte tells the sign. -/
def neg1 : List UInt8 → Bool
  | [] => false
  | b :: _ => decide (b.toNat / 64 % 2 = 1)
theorem numB_facts (n : Int) (h1 : -maxI ≤ n) (h2 : n ≤ maxI) : endB (numB n) ∧ val (numB n) = n.natAbs ∧ neg1 (numB n) = decide (n < 0) ∧ (numB n).length ≤ 9 := by
  unfold maxI at h1 h2
  have hlen : (numB n).length ≤ 9 := putB_len 8 _ _ (by omega)
  have hend : endB (numB n) := putB_end _ _ (by split <;> omega)
  refine ⟨hend, ?_, ?_, hlen⟩
  · unfold numB
    have hc : (if n < 0 then 64 else 0) + n.natAbs % 64 < 128 := by split <;> omega
    by_cases h : n.natAbs / 64 = 0
    · rw [h, putB_zero, val_first, byteOf_nat _ (by omega)]; split <;> omega
    · rw [putB_more _ _ h]
      simp only [val]
      rw [byteOf_nat _ (by omega), putB_valT _ _ (Nat.mod_lt _ (by omega))]
      split <;> omega
  · unfold numB
    have hc : (if n < 0 then 64 else 0) + n.natAbs % 64 < 128 := by split <;> omega
    by_cases h : n.natAbs / 64 = 0
    · rw [h, putB_zero]
      simp only [neg1]
      rw [byteOf_nat _ (by omega)]
      by_cases hn : n < 0 <;> simp [hn] <;> omega
    · rw [putB_more _ _ h]
      simp only [neg1]
      rw [byteOf_nat _ (by omega)]
      by_cases hn : n < 0 <;> simp [hn] <;> omega

theorem endB_app : ∀ (p q r t : List UInt8), endB p → endB q → p ++ r = q ++ t → p = q
  | [], _, _, _, h, _, _ => h.elim
  | _, [], _, _, _, h, _ => h.elim
  | [b], [c], r, t, _, _, e => by simp at e; rw [e.1]
  | [b], c :: d :: q, r, t, h, h', e => by
    simp at e; have h1 : b.toNat < 128 := h; have h2 := h'.1; rw [e.1] at h1; omega
  | b :: d :: p, [c], r, t, h, h', e => by
    simp at e; have h1 := h.1; have h2 : c.toNat < 128 := h'; rw [e.1] at h1; omega
  | b :: d :: p, c :: d' :: q, r, t, h, h', e => by
    simp only [List.cons_append, List.cons.injEq] at e
    have := endB_app (d :: p) (d' :: q) r t h.2 h'.2 (by simp only [List.cons_append, List.cons.injEq]; exact e.2)
    rw [e.1, this]
/-- All of them go on. -/
def goB (l : List UInt8) : Prop := ∀ b ∈ l, 128 ≤ b.toNat
theorem endB_of : ∀ (l : List UInt8) (b : UInt8), goB l → b.toNat < 128 → endB (l ++ [b])
  | [], b, _, h => h
  | x :: l, b, hg, h => by
    rw [List.cons_append, endB_cons (by simp)]
    exact ⟨hg x (by simp), endB_of l b (fun y hy => hg y (by simp [hy])) h⟩
/-- Where the first bytes all go on, a number is longer. -/
theorem endB_longer : ∀ (p l r t : List UInt8), endB p → goB l → p ++ r = l ++ t → l.length < p.length
  | [], _, _, _, h, _, _ => h.elim
  | b :: p, [], _, _, _, _, _ => by simp
  | [b], c :: l, r, t, h, hg, e => by
    simp at e; have h1 : b.toNat < 128 := h; have := hg c (by simp); rw [e.1] at h1; omega
  | b :: d :: p, c :: l, r, t, h, hg, e => by
    simp only [List.cons_append, List.cons.injEq] at e
    have := endB_longer (d :: p) l r t h.2 (fun y hy => hg y (by simp [hy])) (by simp only [List.cons_append]; exact e.2)
    simp only [List.length_cons] at this ⊢; omega
/-- What numberOf of the reference answers. -/
def nOf (s : List UInt8) : Int × Int := match takeNum s with
  | none => (0, 0)
  | some (n, r) => (n, (s.length : Int) - r.length)
theorem nOf_put {n : Int} {r s : List UInt8} (h1 : -maxI ≤ n) (h2 : n ≤ maxI) (e : s = numB n ++ r) : nOf s = (n, ((numB n).length : Int)) := by
  unfold nOf; rw [e, takeNum_put n r h1 h2]; simp
theorem nOf_cases (s : List UInt8) : nOf s = (0, 0) ∧ takeNum s = none ∨ ∃ n r, takeNum s = some (n, r) ∧ s = numB n ++ r ∧ -maxI ≤ n ∧ n ≤ maxI ∧ nOf s = (n, ((numB n).length : Int)) := by
  cases h : takeNum s with
  | none => left; exact ⟨by unfold nOf; rw [h], rfl⟩
  | some z =>
    obtain ⟨n, r⟩ := z
    obtain ⟨e, h1, h2⟩ := takeNum_some h
    right; exact ⟨n, r, rfl, e, h1, h2, nOf_put h1 h2 e⟩
/-- The bytes read so far all go on, and are too many: none. -/
theorem nOf_long {s l t : List UInt8} (e : s = l ++ t) (hg : goB l) (h : 9 ≤ l.length ∨ t = []) : nOf s = (0, 0) := by
  rcases nOf_cases s with h' | ⟨n, r, _, e', h1, h2, _⟩
  · exact h'.1
  · exfalso
    have f := numB_facts n h1 h2
    have := endB_longer (numB n) l r t f.1 hg (by rw [← e, ← e'])
    rcases h with h | rfl
    · have := f.2.2.2; omega
    · have h3 : (numB n ++ r).length = (l ++ []).length := by rw [← e, ← e']
      simp at h3; omega
/-- The ninth byte has too much in it: none. -/
theorem nOf_big {s l t : List UInt8} {b : UInt8} (e : s = l ++ b :: t) (hg : goB l) (h8 : l.length = 8) (hb : 63 < b.toNat % 128) : nOf s = (0, 0) := by
  rcases nOf_cases s with h' | ⟨n, r, _, e', h1, h2, _⟩
  · exact h'.1
  · exfalso
    have f := numB_facts n h1 h2
    have hl := endB_longer (numB n) l r (b :: t) f.1 hg (by rw [← e, ← e'])
    have h9 : (numB n).length = 9 := by have := f.2.2.2; omega
    have hp : numB n = l ++ [b] := by
      have h3 : (numB n ++ r).take 9 = (l ++ b :: t).take 9 := by rw [← e, ← e']
      rw [List.take_append_of_le_length (by omega), List.take_of_length_le (by omega)] at h3
      rw [h3, List.take_append, h8]; simp
      rw [List.take_of_length_le (by omega)]
    have hv := f.2.1
    rw [hp, val_snoc l b (by intro h; rw [h] at h8; simp at h8), h8] at hv
    simp only [wt] at hv
    unfold maxI at h1 h2
    omega
/-- The first byte that does not go on ends the number, if there is one. -/
theorem nOf_end {s l t : List UInt8} {b : UInt8} (e : s = l ++ b :: t) (hg : goB l) (hb : b.toNat < 128) {n : Int} (hn : n = if neg1 (l ++ [b]) = true then -(val (l ++ [b]) : Int) else val (l ++ [b])) :
    nOf s = if (-maxI ≤ n ∧ n ≤ maxI) ∧ numB n = l ++ [b] then (n, (l.length : Int) + 1) else (0, 0) := by
  have he := endB_of l b hg hb
  by_cases h : (-maxI ≤ n ∧ n ≤ maxI) ∧ numB n = l ++ [b]
  · rw [if_pos h, nOf_put (r := t) h.1.1 h.1.2 (by rw [h.2, e]; simp), h.2]; simp
  · rw [if_neg h]
    rcases nOf_cases s with h' | ⟨m, r, _, e', h1, h2, _⟩
    · exact h'.1
    · exfalso
      have f := numB_facts m h1 h2
      have hp : numB m = l ++ [b] := endB_app _ _ r t f.1 he (by rw [← e', e]; simp)
      rw [← hp, f.2.1, f.2.2.1] at hn
      have : n = m := by
        rw [hn]; by_cases hm : m < 0 <;> simp [hm] <;> omega
      subst this
      exact h ⟨⟨h1, h2⟩, hp⟩
end Go.Abs
