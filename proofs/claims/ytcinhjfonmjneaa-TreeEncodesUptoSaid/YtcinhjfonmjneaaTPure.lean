/- Package tree and its reference, as plain functions, and their laws. -/
import Derived.Test.YtcinhjfonmjneaaKPure
set_option linter.unusedVariables false
set_option linter.unusedSimpArgs false
namespace Go.Abs

abbrev maxI : Int := 1152921504606846976

def primP (p : Int) : Bool := decide ((1 ≤ p ∧ p ≤ 15) ∨ (20 ≤ p ∧ p ≤ 28) ∨ (40 ≤ p ∧ p ≤ 95))

/-- What is wrong with a node by itself, at a depth. -/
def wrong1 (kind n p : Int) (s : List UInt8) (k : Nat) (d : Int) : Int :=
  if d > 24 then 4
  else if kind < 0 ∨ kind > 3 ∨ kind = 2 ∧ primP p = false then 3
  else if kind ≠ 0 ∧ n ≠ 0 ∨ kind ≠ 2 ∧ p ≠ 0 ∨ kind ≠ 1 ∧ s ≠ [] ∨ kind < 2 ∧ 0 < k then 1
  else if n < -maxI ∨ n > maxI then 2
  else if 200 < s.length then 4 else 0

mutual
def wrong : Nd → Int → Int
  | .mk kind n p s args, d => if wrong1 kind n p s args.length d = 0 then wrongs args (d + 1) else wrong1 kind n p s args.length d
def wrongs : List Nd → Int → Int
  | [], _ => 0
  | x :: l, d => if wrong x d = 0 then wrongs l d else wrong x d
end
mutual
def many : Nd → Nat
  | .mk _ _ _ _ args => manys args + 1
def manys : List Nd → Nat
  | [] => 0
  | x :: l => many x + manys l
end
def tGoodN (n : Nd) : Int := if wrong n 1 = 0 then (if 300 < many n then 4 else 0) else wrong n 1

/-- The bytes of a number: the first rest, then what is above it. -/
def putB (c m : Nat) : List UInt8 :=
  if m = 0 then [byteOf (c : Nat)] else byteOf ((c + 128 : Nat) : Int) :: putB (m % 128) (m / 128)
termination_by m
decreasing_by omega

def numB (n : Int) : List UInt8 := putB ((if n < 0 then 64 else 0) + n.natAbs % 64) (n.natAbs / 64)

mutual
/-- A tree's bytes. -/
def bytesN : Nd → List UInt8
  | .mk kind n p s args =>
    if kind = 0 then byteOf kind :: numB n
    else if kind = 1 then byteOf kind :: (numB (s.length : Int) ++ s)
    else if kind = 2 then byteOf kind :: byteOf p :: (numB (args.length : Int) ++ bytesNs args)
    else byteOf kind :: (numB (args.length : Int) ++ bytesNs args)
def bytesNs : List Nd → List UInt8
  | [] => []
  | x :: l => bytesN x ++ bytesNs l
end
def tEncode (n : Nd) : List UInt8 × Int := if tGoodN n = 0 then (bytesN n, 0) else ([], tGoodN n)

-- numbers read
def takeB : List UInt8 → Nat → Nat → Option (Nat × List UInt8)
  | [], _, _ => none
  | b :: s, n, sh => if b.toNat = 0 ∨ sh > 55 then none
    else if b.toNat ≥ 128 then takeB s (n + b.toNat % 128 * 2 ^ sh) (sh + 7) else some (n + b.toNat % 128 * 2 ^ sh, s)
def takeFirst (b : UInt8) (s : List UInt8) : Option (Nat × List UInt8) := if b.toNat ≥ 128 then takeB s (b.toNat % 64) 6 else some (b.toNat % 64, s)
def takeNum : List UInt8 → Option (Int × List UInt8)
  | [] => none
  | b :: s => match takeFirst b s with
    | none => none
    | some (n, r) => if (b.toNat / 64 % 2 = 1 ∧ n = 0) ∨ n > 1152921504606846976 then none else some (if b.toNat / 64 % 2 = 1 then -(n : Int) else n, r)

theorem byteOf_nat (c : Nat) (h : c < 256) : (byteOf (c : Int)).toNat = c := by
  have := byteOf_val (c : Int)
  rw [show IntKind.u8.wrap (c : Int) = c from by simp [IntKind.wrap, IntKind.bits, IntKind.signed]; omega] at this
  omega
theorem byteOf_toNat (b : UInt8) : byteOf ((b.toNat : Nat) : Int) = b := by
  apply UInt8.toNat_inj.1
  rw [byteOf_nat _ b.toNat_lt]

theorem putB_zero (c : Nat) : putB c 0 = [byteOf (c : Nat)] := by rw [putB]; simp
theorem putB_more (c m : Nat) (h : m ≠ 0) : putB c m = byteOf ((c + 128 : Nat) : Int) :: putB (m % 128) (m / 128) := by rw [putB, if_neg h]

theorem takeB_put : ∀ (m c n sh : Nat) (r : List UInt8), c < 128 → c + 128 * m ≠ 0 → sh % 7 = 6 → (c + 128 * m) * 2 ^ sh ≤ 2 ^ 60 → takeB (putB c m ++ r) n sh = some (n + (c + 128 * m) * 2 ^ sh, r) := by
  intro m
  induction m using Nat.strongRecOn with
  | ind m ih =>
    intro c n sh r hc h0 h7 hb
    have hsh : sh ≤ 60 := by
      have h1 : 2 ^ sh ≤ 2 ^ 60 := Nat.le_trans (Nat.le_mul_of_pos_left _ (by omega)) hb
      exact (Nat.pow_le_pow_iff_right (by omega)).1 h1
    by_cases hm : m = 0
    · subst hm
      rw [putB_zero]
      simp only [List.cons_append, List.nil_append, takeB]
      rw [byteOf_nat _ (by omega), if_neg (by omega), if_neg (by omega), Nat.mod_eq_of_lt hc]
      simp
    · rw [putB_more _ _ hm]
      simp only [List.cons_append, takeB]
      rw [byteOf_nat _ (by omega), if_neg (by omega), if_pos (by omega)]
      have e : (c + 128) % 128 = c := by omega
      have hm2 : m % 128 + 128 * (m / 128) = m := by omega
      have hpow : 2 ^ (sh + 7) = 128 * 2 ^ sh := by rw [Nat.pow_add]; omega
      rw [e, ih (m / 128) (by omega) (m % 128) _ _ r (by omega) (by omega) (by omega) (by
        rw [hm2, hpow]
        refine Nat.le_trans ?_ hb
        rw [← Nat.mul_assoc, Nat.mul_comm m 128]
        exact Nat.mul_le_mul_right _ (by omega))]
      rw [hm2, hpow]
      congr 2
      rw [Nat.add_mul, Nat.add_assoc, ← Nat.mul_assoc, Nat.mul_comm m 128]

theorem takeB_some : ∀ (s : List UInt8) (n sh v : Nat) (r : List UInt8), takeB s n sh = some (v, r) → ∃ c m, c < 128 ∧ c + 128 * m ≠ 0 ∧ s = putB c m ++ r ∧ v = n + (c + 128 * m) * 2 ^ sh
  | [], n, sh, v, r, h => by simp [takeB] at h
  | b :: s, n, sh, v, r, h => by
    have hb := b.toNat_lt
    simp only [takeB] at h
    split at h
    · simp at h
    · rename_i h0
      split at h
      · rename_i h1
        obtain ⟨c, m, hc, hcm, hs, hv⟩ := takeB_some s _ _ v r h
        have hpow : 2 ^ (sh + 7) = 128 * 2 ^ sh := by rw [Nat.pow_add]; omega
        refine ⟨b.toNat % 128, c + 128 * m, by omega, by omega, ?_, ?_⟩
        · rw [putB_more _ _ hcm, show (c + 128 * m) % 128 = c from by omega, show (c + 128 * m) / 128 = m from by omega, show b.toNat % 128 + 128 = b.toNat from by omega, byteOf_toNat, hs]
          rfl
        · rw [hv, hpow, Nat.add_mul (b.toNat % 128), Nat.add_assoc, ← Nat.mul_assoc, Nat.mul_comm (c + 128 * m) 128]
      · rename_i h1
        simp at h
        refine ⟨b.toNat, 0, by omega, by omega, ?_, ?_⟩
        · rw [putB_zero, byteOf_toNat, h.2]; rfl
        · rw [← h.1, Nat.mod_eq_of_lt (by omega)]; simp

theorem takeNum_put (n : Int) (r : List UInt8) (h1 : -maxI ≤ n) (h2 : n ≤ maxI) : takeNum (numB n ++ r) = some (n, r) := by
  have hab : n.natAbs ≤ 1152921504606846976 := by unfold maxI at h1 h2; omega
  unfold numB
  generalize hs : (if n < 0 then 64 else 0 : Nat) = sg
  have hsg : (sg = 64 ∧ n < 0) ∨ (sg = 0 ∧ 0 ≤ n) := by split at hs <;> omega
  generalize hx : n.natAbs = a at hab ⊢
  by_cases hm : a / 64 = 0
  · rw [hm, putB_zero]
    simp only [List.cons_append, List.nil_append, takeNum, takeFirst]
    rw [byteOf_nat _ (by omega), if_neg (by omega)]
    simp only
    rw [if_neg (by omega)]
    simp only [Option.some.injEq, Prod.mk.injEq, and_true]
    split <;> omega
  · rw [putB_more _ _ hm]
    simp only [List.cons_append, takeNum, takeFirst]
    rw [byteOf_nat _ (by omega), if_pos (by omega), takeB_put _ _ _ _ _ (by omega) (by omega) (by omega) (by
      rw [show a / 64 % 128 + 128 * (a / 64 / 128) = a / 64 from by omega]; omega)]
    simp only
    rw [show a / 64 % 128 + 128 * (a / 64 / 128) = a / 64 from by omega]
    have e : (sg + a % 64 + 128) % 64 + a / 64 * 2 ^ 6 = a := by omega
    rw [e, if_neg (by omega)]
    simp only [Option.some.injEq, Prod.mk.injEq, and_true]
    split <;> omega

theorem takeNum_some {s : List UInt8} {n : Int} {r : List UInt8} (h : takeNum s = some (n, r)) : s = numB n ++ r ∧ -maxI ≤ n ∧ n ≤ maxI := by
  cases s with
  | nil => simp [takeNum] at h
  | cons b s =>
    have hb := b.toNat_lt
    simp only [takeNum] at h
    split at h
    · simp at h
    · rename_i v r' hv
      split at h
      · simp at h
      · rename_i hn
        simp only [Option.some.injEq, Prod.mk.injEq] at h
        obtain ⟨h1, rfl⟩ := h
        unfold maxI
        unfold takeFirst at hv
        split at hv
        · rename_i hc
          obtain ⟨c, m, hc1, hc2, hs, hv2⟩ := takeB_some _ _ _ _ _ hv
          have hab : n.natAbs = v := by split at h1 <;> omega
          refine ⟨?_, by split at h1 <;> omega, by split at h1 <;> omega⟩
          unfold numB
          rw [hab]
          have e1 : v / 64 = c + 128 * m := by omega
          have e2 : v % 64 = b.toNat % 64 := by omega
          rw [e1, e2, putB_more _ _ hc2, show (c + 128 * m) % 128 = c from by omega, show (c + 128 * m) / 128 = m from by omega, hs]
          have e3 : (if n < 0 then 64 else 0 : Nat) + b.toNat % 64 + 128 = b.toNat := by split at h1 <;> split <;> omega
          rw [e3, byteOf_toNat]; rfl
        · rename_i hc
          simp at hv
          obtain ⟨hv, rfl⟩ := hv
          have hab : n.natAbs = v := by split at h1 <;> omega
          refine ⟨?_, by split at h1 <;> omega, by split at h1 <;> omega⟩
          unfold numB
          rw [hab, show v / 64 = 0 from by omega, putB_zero, show v % 64 = b.toNat % 64 from by omega]
          have e3 : (if n < 0 then 64 else 0 : Nat) + b.toNat % 64 = b.toNat := by split at h1 <;> split <;> omega
          rw [e3, byteOf_toNat]; rfl

theorem takeNum_more {s : List UInt8} {n : Int} {r : List UInt8} (t : List UInt8) (h : takeNum s = some (n, r)) : takeNum (s ++ t) = some (n, r ++ t) := by
  obtain ⟨h1, h2, h3⟩ := takeNum_some h
  rw [h1, List.append_assoc]; exact takeNum_put n (r ++ t) h2 h3

-- trees read
inductive Rd (α : Type) where
  | ok (a : α) (s : List UInt8) (left : Nat)
  | no (e : Int)

def rdRow (f : List UInt8 → Nat → Rd Nd) : Nat → List UInt8 → Nat → Rd (List Nd)
  | 0, s, left => .ok [] s left
  | k + 1, s, left => match f s left with
    | .no e => .no e
    | .ok x s' left' => match rdRow f k s' left' with
      | .no e => .no e
      | .ok l s2 left2 => .ok (x :: l) s2 left2

/-- The arguments of a node. -/
def rdArgs (f : List UInt8 → Nat → Rd Nd) (kind p : Int) (s : List UInt8) (left : Nat) : Rd Nd :=
  match takeNum s with
  | none => .no 1
  | some (k, s') => if k < 0 then .no 1 else match rdRow f k.toNat s' left with
    | .no e => .no e
    | .ok l s2 left2 => .ok (.mk kind 0 p [] l) s2 left2

/-- A node behind its kind. -/
def rdBody (f : List UInt8 → Nat → Rd Nd) (c : Nat) (s : List UInt8) (left : Nat) : Rd Nd :=
  if c = 0 then (match takeNum s with
    | none => .no 1
    | some (n, s') => .ok (.mk 0 n 0 [] []) s' left)
  else if c = 1 then (match takeNum s with
    | none => .no 1
    | some (n, s') => if n < 0 ∨ n > 200 ∨ n > s'.length then .no 1 else .ok (.mk 1 0 0 (s'.take n.toNat) []) (s'.drop n.toNat) left)
  else if c = 2 then (match s with
    | [] => .no 1
    | p :: s' => if primP p.toNat = true then rdArgs f 2 p.toNat s' left else .no 1)
  else if c = 3 then rdArgs f 3 0 s left
  else .no 1

def rdNode : Nat → List UInt8 → Nat → Rd Nd
  | 0, _, _ => .no 4
  | g + 1, s, left => if left = 0 then .no 4 else match s with
    | [] => .no 1
    | c :: s' => rdBody (rdNode g) c.toNat s' (left - 1)

def tDecode (s : List UInt8) : Nd × Int := match rdNode 24 s 300 with
  | .no e => (nd0, e)
  | .ok n r _ => if r = [] then (n, 0) else (nd0, 1)

theorem numB_ne (n : Int) : numB n ≠ [] := by
  unfold numB
  rw [putB]; split <;> simp

theorem manys_len : ∀ l : List Nd, l.length ≤ manys l
  | [] => Nat.le_refl _
  | .mk _ _ _ _ _ :: l => by have := manys_len l; simp only [List.length_cons, manys, many]; omega

theorem wrong_eq {kind n p : Int} {s : List UInt8} {args : List Nd} {d : Int} (h : wrong (.mk kind n p s args) d = 0) : wrong1 kind n p s args.length d = 0 ∧ wrongs args (d + 1) = 0 := by
  simp only [wrong] at h
  by_cases hh : wrong1 kind n p s args.length d = 0
  · rw [if_pos hh] at h; exact ⟨hh, h⟩
  · rw [if_neg hh] at h; exact absurd h hh

theorem wrong1_eq {kind n p : Int} {s : List UInt8} {k : Nat} {d : Int} (h : wrong1 kind n p s k d = 0) :
    d ≤ 24 ∧ (kind = 0 ∨ kind = 1 ∨ kind = 2 ∧ primP p = true ∨ kind = 3) ∧ (kind ≠ 0 → n = 0) ∧ (kind ≠ 2 → p = 0) ∧ (kind ≠ 1 → s = []) ∧ (kind < 2 → k = 0) ∧ -maxI ≤ n ∧ n ≤ maxI ∧ s.length ≤ 200 := by
  unfold wrong1 at h
  split at h
  · omega
  · split at h
    · omega
    · split at h
      · omega
      · split at h
        · omega
        · split at h
          · omega
          · rename_i h1 h2 h3 h4 h5
            simp only [not_or, not_and, ne_eq, Decidable.not_not, Bool.not_eq_false, Int.not_lt, Nat.not_lt] at h1 h2 h3 h4 h5
            refine ⟨by omega, ?_, h3.1, h3.2.1, h3.2.2.1, fun hk => by have := h3.2.2.2 hk; omega, by omega, by omega, h5⟩
            by_cases hk : kind = 2
            · right; right; left; exact ⟨hk, h2.2.2 hk⟩
            · omega

theorem wrong1_of {kind n p : Int} {s : List UInt8} {k : Nat} {d : Int} (h0 : d ≤ 24) (h1 : kind = 0 ∨ kind = 1 ∨ kind = 2 ∧ primP p = true ∨ kind = 3) (h2 : kind ≠ 0 → n = 0) (h3 : kind ≠ 2 → p = 0) (h4 : kind ≠ 1 → s = []) (h5 : kind < 2 → k = 0) (h6 : -maxI ≤ n) (h7 : n ≤ maxI) (h8 : s.length ≤ 200) : wrong1 kind n p s k d = 0 := by
  unfold wrong1
  rw [if_neg (by omega), if_neg, if_neg, if_neg (by omega), if_neg (by omega)]
  · simp only [not_or, not_and, ne_eq, Decidable.not_not]
    exact ⟨h2, h3, h4, fun hk => by have := h5 hk; omega⟩
  · simp only [not_or, not_and, Bool.not_eq_false]
    refine ⟨by omega, by omega, fun hk => ?_⟩
    rcases h1 with h | h | h | h
    · omega
    · omega
    · exact h.2
    · omega

theorem primP_range {p : Int} (h : primP p = true) : 1 ≤ p ∧ p ≤ 95 := by
  unfold primP at h; have := of_decide_eq_true h; omega

theorem rdNode_bytes : ∀ (g : Nat) (n : Nd) (r : List UInt8) (left : Nat), left ≤ 300 → wrong n (25 - g) = 0 → many n ≤ left → rdNode g (bytesN n ++ r) left = .ok n r (left - many n)
  | 0, .mk kind n p s args, r, left, hl, h, hm => by
    have := (wrong1_eq (wrong_eq h).1).1
    omega
  | g + 1, .mk kind n p s args, r, left, hl, h, hm => by
    obtain ⟨h1, h2⟩ := wrong_eq h
    obtain ⟨hd, hk, hn, hp, hs, ha, hn1, hn2, hs2⟩ := wrong1_eq h1
    simp only [many] at hm ⊢
    have hf : ∀ (n : Nd) (r : List UInt8) (lf : Nat), lf ≤ 300 → wrong n (25 - g) = 0 → many n ≤ lf → rdNode g (bytesN n ++ r) lf = .ok n r (lf - many n) := fun n r lf => rdNode_bytes g n r lf
    have hrow : ∀ (l : List Nd) (r : List UInt8) (lf : Nat), lf ≤ 300 → wrongs l (25 - g) = 0 → manys l ≤ lf → rdRow (rdNode g) l.length (bytesNs l ++ r) lf = .ok l r (lf - manys l) := by
      intro l
      induction l with
      | nil => intro r lf _ _ _; simp [rdRow, bytesNs, manys]
      | cons x l ih =>
        intro r lf hlf h hm
        simp only [wrongs] at h
        simp only [manys] at hm
        have hx : wrong x (25 - g) = 0 := by by_cases hh : wrong x (25 - g) = 0; exact hh; rw [if_neg hh] at h; exact h
        rw [if_pos hx] at h
        simp only [List.length_cons, rdRow, bytesNs, List.append_assoc, manys]
        rw [hf x _ lf hlf hx (by omega)]
        simp only
        rw [ih r _ (by omega) h (by omega)]
        simp only [Nat.sub_sub]
    have hargs : ∀ (kind p : Int), wrongs args (25 - g) = 0 → rdArgs (rdNode g) kind p (numB (args.length : Int) ++ bytesNs args ++ r) (left - 1) = .ok (.mk kind 0 p [] args) r (left - 1 - manys args) := by
      intro kind p hw
      have := manys_len args
      unfold rdArgs
      rw [List.append_assoc, takeNum_put _ _ (by unfold maxI; omega) (by unfold maxI; omega)]
      simp only
      rw [if_neg (by omega), show ((args.length : Nat) : Int).toNat = args.length from by omega, hrow args r (left - 1) (by omega) hw (by omega)]
    have h2' : wrongs args (25 - g) = 0 := by rw [← h2]; congr 1; omega
    have e : left - (manys args + 1) = left - 1 - manys args := by omega
    rw [e]
    simp only [rdNode]
    rw [if_neg (by omega)]
    have b0 : (byteOf 0).toNat = 0 := rfl
    have b1 : (byteOf 1).toNat = 1 := rfl
    have b2 : (byteOf 2).toNat = 2 := rfl
    have b3 : (byteOf 3).toNat = 3 := rfl
    rcases hk with rfl | rfl | ⟨rfl, hpp⟩ | rfl
    · have := ha (by omega); rw [List.length_eq_zero_iff] at this; subst this
      obtain rfl := hp (by omega); obtain rfl := hs (by omega)
      simp only [bytesN, if_true, List.cons_append, rdBody, b0]
      rw [takeNum_put _ _ hn1 hn2]
      simp [manys]
    · have := ha (by omega); rw [List.length_eq_zero_iff] at this; subst this
      obtain rfl := hp (by omega); obtain rfl := hn (by omega)
      simp only [bytesN, show ¬ ((1 : Int) = 0) from by omega, if_false, if_true, List.cons_append, rdBody, b1, show ¬ ((1 : Nat) = 0) from by omega]
      rw [List.append_assoc, takeNum_put _ _ (by unfold maxI; omega) (by unfold maxI; omega)]
      simp only
      rw [if_neg (by simp only [List.length_append]; omega)]
      simp [manys]
    · obtain rfl := hn (by omega); obtain rfl := hs (by omega)
      have hpr := primP_range hpp
      have hp2 : (byteOf p).toNat = p := by
        obtain ⟨q, rfl⟩ : ∃ q : Nat, p = q := ⟨p.toNat, by omega⟩
        rw [byteOf_nat _ (by omega)]
      simp only [bytesN, show ¬ ((2 : Int) = 0) from by omega, show ¬ ((2 : Int) = 1) from by omega, if_false, if_true, List.cons_append, rdBody, b2, show ¬ ((2 : Nat) = 0) from by omega, show ¬ ((2 : Nat) = 1) from by omega]
      rw [hp2, if_pos hpp, hargs 2 p h2']
    · obtain rfl := hn (by omega); obtain rfl := hs (by omega); obtain rfl := hp (by omega)
      simp only [bytesN, show ¬ ((3 : Int) = 0) from by omega, show ¬ ((3 : Int) = 1) from by omega, show ¬ ((3 : Int) = 2) from by omega, if_false, if_true, List.cons_append, rdBody, b3, show ¬ ((3 : Nat) = 0) from by omega, show ¬ ((3 : Nat) = 1) from by omega, show ¬ ((3 : Nat) = 2) from by omega]
      rw [hargs 3 0 h2']

theorem rdNode_ok : ∀ (g : Nat) (s : List UInt8) (left : Nat) (n : Nd) (r : List UInt8) (left' : Nat), g ≤ 24 → rdNode g s left = .ok n r left' → s = bytesN n ++ r ∧ wrong n (25 - g) = 0 ∧ left = left' + many n
  | 0, s, left, n, r, left', _, h => by simp [rdNode] at h
  | g + 1, s, left, n, r, left', hg, h => by
    have ih := fun s left n r left' => rdNode_ok g s left n r left' (by omega)
    have hrow : ∀ (k : Nat) (s : List UInt8) (left : Nat) (l : List Nd) (r : List UInt8) (left' : Nat), rdRow (rdNode g) k s left = .ok l r left' → s = bytesNs l ++ r ∧ wrongs l (25 - g) = 0 ∧ left = left' + manys l ∧ l.length = k := by
      intro k
      induction k with
      | zero => intro s left l r left' h; simp [rdRow] at h; obtain ⟨rfl, rfl, rfl⟩ := h; simp [bytesNs, wrongs, manys]
      | succ k ihk =>
        intro s left l r left' h
        simp only [rdRow] at h
        split at h
        · simp at h
        · rename_i x s1 l1 hx
          split at h
          · simp at h
          · rename_i l2 s2 left2 hl
            simp at h; obtain ⟨rfl, rfl, rfl⟩ := h
            obtain ⟨e1, e2, e3⟩ := ih _ _ _ _ _ hx
            obtain ⟨f1, f2, f3, f4⟩ := ihk _ _ _ _ _ hl
            refine ⟨?_, ?_, ?_, ?_⟩
            · rw [e1, f1]; simp [bytesNs]
            · simp [wrongs, e2, f2]
            · simp only [manys]; omega
            · simp [f4]
    have hargs : ∀ (kind p : Int) (s : List UInt8) (left : Nat) (n : Nd) (r : List UInt8) (left' : Nat), rdArgs (rdNode g) kind p s left = .ok n r left' → ∃ l, n = .mk kind 0 p [] l ∧ s = numB (l.length : Int) ++ bytesNs l ++ r ∧ wrongs l (25 - g) = 0 ∧ left = left' + manys l := by
      intro kind p s left n r left' h
      unfold rdArgs at h
      split at h
      · simp at h
      · rename_i k s' hk
        split at h
        · simp at h
        · rename_i hk0
          split at h
          · simp at h
          · rename_i l s2 left2 hl
            simp at h; obtain ⟨rfl, rfl, rfl⟩ := h
            obtain ⟨f1, f2, f3, f4⟩ := hrow _ _ _ _ _ _ hl
            obtain ⟨t1, _, _⟩ := takeNum_some hk
            refine ⟨l, rfl, ?_, f2, f3⟩
            rw [t1, f1, f4, List.append_assoc, show ((k.toNat : Nat) : Int) = k from by omega]
    simp only [rdNode] at h
    split at h
    · simp at h
    · rename_i hl
      cases s with
      | nil => simp at h
      | cons c s =>
        simp only at h
        have hd : (25 - ((g + 1 : Nat) : Int)) ≤ 24 := by omega
        have e25 : (25 - ((g + 1 : Nat) : Int)) + 1 = 25 - (g : Int) := by omega
        have hcb := byteOf_toNat c
        unfold rdBody at h
        split at h
        · rename_i hc
          split at h
          · simp at h
          · rename_i v s' hv
            simp at h; obtain ⟨rfl, rfl, rfl⟩ := h
            obtain ⟨t1, t2, t3⟩ := takeNum_some hv
            refine ⟨?_, ?_, by simp only [many, manys]; omega⟩
            · simp only [bytesN, if_true]; rw [t1, ← hcb, hc]; rfl
            · simp only [wrong]; rw [if_pos (wrong1_of hd (.inl rfl) (by simp) (by simp) (by simp) (by simp) t2 t3 (by simp))]; rfl
        · rename_i hc0
          split at h
          · rename_i hc
            split at h
            · simp at h
            · rename_i v s' hv
              split at h
              · simp at h
              · rename_i hvb
                simp at h; obtain ⟨rfl, rfl, rfl⟩ := h
                obtain ⟨t1, t2, t3⟩ := takeNum_some hv
                have hlen : (s'.take v.toNat).length = v.toNat := by rw [List.length_take]; omega
                refine ⟨?_, ?_, by simp only [many, manys]; omega⟩
                · simp only [bytesN, show ¬ ((1 : Int) = 0) from by omega, if_false, if_true]
                  rw [hlen, show ((v.toNat : Nat) : Int) = v from by omega, t1, ← hcb, hc]
                  simp [List.append_assoc]
                · simp only [wrong]; rw [if_pos (wrong1_of hd (.inr (.inl rfl)) (by simp) (by simp) (by simp) (by simp) (by unfold maxI; omega) (by unfold maxI; omega) (by rw [hlen]; omega))]; rfl
          · rename_i hc1
            split at h
            · rename_i hc
              cases s with
              | nil => simp at h
              | cons p s =>
                simp only at h
                split at h
                · rename_i hp
                  obtain ⟨l, rfl, f1, f2, f3⟩ := hargs _ _ _ _ _ _ _ h
                  have hpb := byteOf_toNat p
                  refine ⟨?_, ?_, by simp only [many]; omega⟩
                  · simp only [bytesN, show ¬ ((2 : Int) = 0) from by omega, show ¬ ((2 : Int) = 1) from by omega, if_false, if_true]
                    rw [f1, hpb, ← hcb, hc]; rfl
                  · simp only [wrong]; rw [if_pos (wrong1_of hd (.inr (.inr (.inl ⟨rfl, hp⟩))) (by simp) (by simp) (by simp) (by simp) (by unfold maxI; omega) (by unfold maxI; omega) (by simp)), e25]; exact f2
                · simp at h
            · rename_i hc2
              split at h
              · rename_i hc
                obtain ⟨l, rfl, f1, f2, f3⟩ := hargs _ _ _ _ _ _ _ h
                refine ⟨?_, ?_, by simp only [many]; omega⟩
                · simp only [bytesN, show ¬ ((3 : Int) = 0) from by omega, show ¬ ((3 : Int) = 1) from by omega, show ¬ ((3 : Int) = 2) from by omega, if_false]
                  rw [f1, ← hcb, hc]; rfl
                · simp only [wrong]; rw [if_pos (wrong1_of hd (.inr (.inr (.inr rfl))) (by simp) (by simp) (by simp) (by simp) (by unfold maxI; omega) (by unfold maxI; omega) (by simp)), e25]; exact f2
              · simp at h

theorem rdNode_more {g : Nat} {s : List UInt8} (t : List UInt8) {left : Nat} {n : Nd} {r : List UInt8} {left' : Nat} (hg : g ≤ 24) (hl : left ≤ 300) (h : rdNode g s left = .ok n r left') : rdNode g (s ++ t) left = .ok n (r ++ t) left' := by
  obtain ⟨h1, h2, h3⟩ := rdNode_ok g s left n r left' hg h
  rw [h1, List.append_assoc, rdNode_bytes g n (r ++ t) left hl h2 (by omega), show left - many n = left' from by omega]

theorem rdNode_no : ∀ (g : Nat) (s : List UInt8) (left : Nat) (e : Int), g ≤ 24 → left ≤ 300 → rdNode g s left = .no e → e = 1 ∨ e = 4 ∧ ∀ t, rdNode g (s ++ t) left = .no 4
  | 0, s, left, e, _, _, h => by simp [rdNode] at h; right; exact ⟨h.symm, fun t => rfl⟩
  | g + 1, s, left, e, hg, hl300, h => by
    have hrow : ∀ (k : Nat) (s : List UInt8) (left : Nat) (e : Int), left ≤ 300 → rdRow (rdNode g) k s left = .no e → e = 1 ∨ e = 4 ∧ ∀ t, rdRow (rdNode g) k (s ++ t) left = .no 4 := by
      intro k
      induction k with
      | zero => intro s left e _ h; simp [rdRow] at h
      | succ k ihk =>
        intro s left e hl h
        simp only [rdRow] at h
        split at h
        · rename_i e1 he1
          simp at h; subst h
          refine (rdNode_no g s left _ (by omega) hl he1).imp id fun ⟨h1, h2⟩ => ⟨h1, fun t => ?_⟩
          simp only [rdRow, h2 t]
        · rename_i x s1 l1 hx
          have h3 := (rdNode_ok g _ _ _ _ _ (by omega) hx).2.2
          split at h
          · rename_i e1 he1
            simp at h; subst h
            refine (ihk s1 l1 _ (by omega) he1).imp id fun ⟨h1, h2⟩ => ⟨h1, fun t => ?_⟩
            simp only [rdRow, rdNode_more t (by omega) hl hx, h2 t]
          · simp at h
    have hargs : ∀ (kind p : Int) (s : List UInt8) (left : Nat) (e : Int), left ≤ 300 → rdArgs (rdNode g) kind p s left = .no e → e = 1 ∨ e = 4 ∧ ∀ t, rdArgs (rdNode g) kind p (s ++ t) left = .no 4 := by
      intro kind p s left e hl h
      unfold rdArgs at h
      split at h
      · simp at h; exact .inl h.symm
      · rename_i k s' hk
        split at h
        · simp at h; exact .inl h.symm
        · rename_i hk0
          split at h
          · rename_i e1 he1
            simp at h; subst h
            refine (hrow _ _ _ _ hl he1).imp id fun ⟨h1, h2⟩ => ⟨h1, fun t => ?_⟩
            unfold rdArgs
            rw [takeNum_more t hk]
            simp only
            rw [if_neg hk0, h2 t]
          · simp at h
    simp only [rdNode] at h
    split at h
    · rename_i hl0
      simp at h; subst h
      right; exact ⟨rfl, fun t => by simp only [rdNode, if_pos hl0]⟩
    · rename_i hl0
      cases s with
      | nil => simp at h; exact .inl h.symm
      | cons c s =>
        simp only at h
        unfold rdBody at h
        split at h
        · split at h
          · simp at h; exact .inl h.symm
          · simp at h
        · rename_i hc0
          split at h
          · split at h
            · simp at h; exact .inl h.symm
            · split at h
              · simp at h; exact .inl h.symm
              · simp at h
          · rename_i hc1
            split at h
            · rename_i hc2
              cases s with
              | nil => simp at h; exact .inl h.symm
              | cons p s =>
                simp only at h
                split at h
                · rename_i hp
                  refine (hargs _ _ _ _ _ (by omega) h).imp id fun ⟨h1, h2⟩ => ⟨h1, fun t => ?_⟩
                  simp only [rdNode, if_neg hl0, List.cons_append, rdBody, if_neg hc0, if_neg hc1, if_pos hc2, if_pos hp, h2 t]
                · simp at h; exact .inl h.symm
            · rename_i hc2
              split at h
              · rename_i hc3
                refine (hargs _ _ _ _ _ (by omega) h).imp id fun ⟨h1, h2⟩ => ⟨h1, fun t => ?_⟩
                simp only [rdNode, if_neg hl0, List.cons_append, rdBody, if_neg hc0, if_neg hc1, if_neg hc2, if_pos hc3, h2 t]
              · simp at h; exact .inl h.symm

theorem tGoodN_zero {n : Nd} : tGoodN n = 0 ↔ wrong n 1 = 0 ∧ many n ≤ 300 := by
  unfold tGoodN
  split
  · rename_i h; split <;> simp [h] <;> omega
  · rename_i h; simp [h]

theorem tDecode_bytes {n : Nd} (h : tGoodN n = 0) : tDecode (bytesN n) = (n, 0) := by
  obtain ⟨h1, h2⟩ := tGoodN_zero.1 h
  have := rdNode_bytes 24 n [] 300 (by omega) h1 h2
  rw [List.append_nil] at this
  simp [tDecode, this]
theorem tDecode_behind {n : Nd} (h : tGoodN n = 0) (b : UInt8) : (tDecode (bytesN n ++ [b])).2 = 1 := by
  obtain ⟨h1, h2⟩ := tGoodN_zero.1 h
  have := rdNode_bytes 24 n [b] 300 (by omega) h1 h2
  simp [tDecode, this]
theorem tDecode_only {s : List UInt8} (h : (tDecode s).2 = 0) : tGoodN (tDecode s).1 = 0 ∧ bytesN (tDecode s).1 = s := by
  unfold tDecode at h ⊢
  split at h
  · rename_i e he
    simp at h; subst h
    have := rdNode_no 24 s 300 0 (by omega) (by omega) he
    omega
  · rename_i n r l hn
    obtain ⟨h1, h2, h3⟩ := rdNode_ok 24 _ _ _ _ _ (by omega) hn
    split at h
    · rename_i hr
      simp only [if_pos hr]
      refine ⟨tGoodN_zero.2 ⟨h2, by omega⟩, by rw [h1, hr, List.append_nil]⟩
    · simp at h
theorem tDecode_bad {s : List UInt8} (h : (tDecode s).2 ≠ 0) : (tDecode s).1 = nd0 := by
  unfold tDecode at h ⊢
  split at h
  · rfl
  · split at h
    · simp at h
    · rename_i hr; simp only [if_neg hr]
theorem tDecode_cut {n : Nd} (h : tGoodN n = 0) (k : Nat) (hk : k < (bytesN n).length) : (tDecode ((bytesN n).take k)).2 = 1 := by
  obtain ⟨h1, h2⟩ := tGoodN_zero.1 h
  have hfull := rdNode_bytes 24 n [] 300 (by omega) h1 h2
  rw [List.append_nil] at hfull
  have hsplit : (bytesN n).take k ++ (bytesN n).drop k = bytesN n := List.take_append_drop k _
  unfold tDecode
  cases hr : rdNode 24 ((bytesN n).take k) 300 with
  | no e =>
    simp only
    rcases rdNode_no 24 _ 300 e (by omega) (by omega) hr with he | ⟨_, he⟩
    · exact he
    · have := he ((bytesN n).drop k)
      rw [hsplit, hfull] at this; simp at this
  | ok m r l =>
    have := rdNode_more ((bytesN n).drop k) (by omega) (by omega) hr
    rw [hsplit, hfull] at this
    simp only [Rd.ok.injEq] at this
    have h4 := this.2.1
    have h5 : ((bytesN n).drop k).length = 0 := by
      have := congrArg List.length h4
      simp only [List.length_nil, List.length_append] at this; omega
    rw [List.length_drop] at h5; omega

end Go.Abs
