/- What has of touchstoneref says, as plain functions. -/
import Derived.Test.YtcinhjfonmjneaaVPure
set_option linter.unusedVariables false
set_option linter.unusedSimpArgs false
namespace Go.Abs

mutual
/-- In a type, each map and ticket is of what can be compared. -/
def tKeys : Ty → Bool
  | .mk T args => (if T = 13 ∨ T = 15 then headComp args else true) && tsKeys args
def tsKeys : List Ty → Bool
  | [] => true
  | t :: l => tKeys t && tsKeys l
end
mutual
theorem good_keys : ∀ (t : Ty) (d n : Int), (kGood t d n).1 = true → tKeys t = true
  | .mk T args, d, n, h => by
    simp only [kGood] at h
    split at h
    · cases h
    · rcases hr : kGoods args (d + 1) (n + 1) with ⟨b, m⟩
      rw [hr] at h
      cases b
      · cases h
      · have := goods_keys args (d + 1) (n + 1) (by rw [hr])
        simp only [tKeys, this, Bool.and_true]; exact h
theorem goods_keys : ∀ (l : List Ty) (d n : Int), (kGoods l d n).1 = true → tsKeys l = true
  | [], _, _, _ => rfl
  | t :: l, d, n, h => by
    simp only [kGoods] at h
    rcases hr : kGood t d n with ⟨b, m⟩
    rw [hr] at h
    cases b
    · cases h
    · have h1 := good_keys t d n (by rw [hr])
      have h2 := goods_keys l d m h
      simp [tsKeys, h1, h2]
end
theorem tGood_keys {t : Ty} (h : tGood t = true) : tKeys t = true := good_keys t 1 0 h
theorem tsKeys_mem : ∀ {l : List Ty} {x : Ty}, tsKeys l = true → x ∈ l → tKeys x = true
  | [], _, _, h => by simp at h
  | t :: l, x, hb, h => by
    simp only [tsKeys, Bool.and_eq_true] at hb
    rcases List.mem_cons.1 h with rfl | h
    · exact hb.1
    · exact tsKeys_mem hb.2 h

def vBody (k n a : Int) (args : List Vl) (types : List Ty) (t : Ty) : Bool :=
    if k = 1 ∨ k = 6 then decide (n = 0 ∧ args.length = 0)
    else if k = 2 then decide (0 ≤ n ∧ n ≤ 1 ∧ args.length = 0)
    else if k = 3 then decide (-maxI ≤ n ∧ n ≤ maxI ∧ args.length = 0)
    else if k = 4 ∨ k = 5 then decide (0 ≤ n ∧ n ≤ maxI ∧ args.length = 0)
    else if k = 7 then decide (0 ≤ n ∧ n < 12 ∧ args.length = 0)
    else if k = 9 then decide (n = 0 ∧ args.length ≤ 1) && vHasAll args (tyArg t 0)
    else if k = 10 then decide (n = 0 ∧ args.length ≤ 24) && vHasAll args (tyArg t 0)
    else if k = 11 then decide (n = 0 ∧ args.length = 2) && vHasRow args (tyArgs t)
    else if k = 12 then decide (0 ≤ n ∧ n ≤ 1 ∧ args.length = 1) && vHasAll args (tyArg t n.toNat)
    else if k = 13 then decide (n = 0 ∧ args.length ≤ 24) && vHasAll args (.mk 11 (tyArgs t)) && vUp args
    else if k = 14 then tySame (tyArg t 0) (types.getD 0 ty0) && tySame (tyArg t 1) (types.getD 1 ty0)
    else if k = 15 then decide (1 ≤ n ∧ n ≤ maxI ∧ 0 ≤ a ∧ a < 12 ∧ args.length = 1) && vHasAll args (tyArg t 0)
    else if k = 8 then decide (0 ≤ n ∧ n ≤ maxI ∧ 0 ≤ a ∧ a < 12 ∧ args.length = 1) && tGood (types.getD 0 ty0) && vHasAll args (types.getD 0 ty0)
    else false
theorem vHas_eq (k n a : Int) (s : List UInt8) (args : List Vl) (types : List Ty) (code : List Nd) (t : Ty) : vHas (.mk k n a s args types code) t = ((k == tyT t) && (vPlain (.mk k n a s args types code) && (decide (s.length ≤ 200) && vBody k n a args types t))) := by
  by_cases h : k ≠ tyT t ∨ vPlain (.mk k n a s args types code) = false ∨ 200 < s.length
  · simp only [vHas, if_pos h]
    rcases h with h | h | h
    · rw [show (k == tyT t) = false from by simpa using h, Bool.false_and]
    · rw [h]; simp
    · rw [show decide (s.length ≤ 200) = false from by simp; omega]; simp
  · simp only [vHas, if_neg h]
    simp only [not_or, ne_eq, Decidable.not_not, Bool.not_eq_false, Nat.not_lt] at h
    rw [h.2.1, show (k == tyT t) = true from by simpa using h.1, show decide (s.length ≤ 200) = true from by simpa using h.2.2]
    rfl
/-- bare -/
def bareB (v : Vl) (bn ba bs : Bool) (args types : Int) (bc : Bool) : Bool := match v with
  | .mk _ n a s l ts code => (bn || n == 0) && ((ba || a == 0) && ((bs || s.isEmpty) && (decide ((l.length : Int) = args) && (decide ((ts.length : Int) = types) && (bc || decide (code.length = 0))))))
theorem rb1 (n a : Int) (s : List UInt8) (args : List Vl) (types : List Ty) (code : List Nd) (ts : List Ty) : vHas (.mk 1 n a s args types code) (.mk 1 ts) = bareB (.mk 1 n a s args types code) false false false 0 0 false := by
  rw [vHas_eq]
  simp only [bareB, vBody, vPlain, tyT, tyArgs]
  generalize args.length = la
  generalize types.length = lt
  generalize code.length = lc
  rw [Bool.eq_iff_iff]
  cases s <;> simp <;> omega
theorem rb2 (n a : Int) (s : List UInt8) (args : List Vl) (types : List Ty) (code : List Nd) (ts : List Ty) : vHas (.mk 2 n a s args types code) (.mk 2 ts) = (bareB (.mk 2 n a s args types code) true false false 0 0 false && (n == 0 || n == 1)) := by
  rw [vHas_eq]
  simp only [bareB, vBody, vPlain, tyT, tyArgs]
  generalize args.length = la
  generalize types.length = lt
  generalize code.length = lc
  rw [Bool.eq_iff_iff]
  cases s <;> simp <;> omega
theorem rb3 (n a : Int) (s : List UInt8) (args : List Vl) (types : List Ty) (code : List Nd) (ts : List Ty) : vHas (.mk 3 n a s args types code) (.mk 3 ts) = (bareB (.mk 3 n a s args types code) true false false 0 0 false && decide (-maxI ≤ n ∧ n ≤ maxI)) := by
  rw [vHas_eq]
  simp only [bareB, vBody, vPlain, tyT, tyArgs]
  generalize args.length = la
  generalize types.length = lt
  generalize code.length = lc
  rw [Bool.eq_iff_iff]
  cases s <;> simp <;> omega
theorem rb45 (k n a : Int) (hk : k = 4 ∨ k = 5) (s : List UInt8) (args : List Vl) (types : List Ty) (code : List Nd) (ts : List Ty) : vHas (.mk k n a s args types code) (.mk k ts) = (bareB (.mk k n a s args types code) true false false 0 0 false && decide (0 ≤ n ∧ n ≤ maxI)) := by
  rw [vHas_eq]
  simp only [bareB, vBody, vPlain, tyT, tyArgs]
  generalize args.length = la
  generalize types.length = lt
  generalize code.length = lc
  rcases hk with rfl | rfl
  all_goals
    rw [Bool.eq_iff_iff]
    cases s <;> simp <;> omega
theorem rb6 (n a : Int) (s : List UInt8) (args : List Vl) (types : List Ty) (code : List Nd) (ts : List Ty) : vHas (.mk 6 n a s args types code) (.mk 6 ts) = (bareB (.mk 6 n a s args types code) false false true 0 0 false && decide ((s.length : Int) ≤ 200)) := by
  rw [vHas_eq]
  simp only [bareB, vBody, vPlain, tyT, tyArgs]
  generalize args.length = la
  generalize types.length = lt
  generalize code.length = lc
  rw [Bool.eq_iff_iff]
  generalize hs : s.length = ls <;> simp <;> omega
theorem rb7 (n a : Int) (s : List UInt8) (args : List Vl) (types : List Ty) (code : List Nd) (ts : List Ty) : vHas (.mk 7 n a s args types code) (.mk 7 ts) = (bareB (.mk 7 n a s args types code) true false false 0 0 false && decide (0 ≤ n ∧ n < 12)) := by
  rw [vHas_eq]
  simp only [bareB, vBody, vPlain, tyT, tyArgs]
  generalize args.length = la
  generalize types.length = lt
  generalize code.length = lc
  rw [Bool.eq_iff_iff]
  cases s <;> simp <;> omega
theorem rb8 (n a : Int) (s : List UInt8) (args : List Vl) (types : List Ty) (code : List Nd) (ts : List Ty) : vHas (.mk 8 n a s args types code) (.mk 8 ts) = (bareB (.mk 8 n a s args types code) true true false 1 1 false && (decide (0 ≤ n ∧ n ≤ maxI) && (decide (0 ≤ a ∧ a < 12) && (tGood (types.getD 0 ty0) && vHasAll args (types.getD 0 ty0))))) := by
  rw [vHas_eq]
  simp only [bareB, vBody, vPlain, tyT, tyArgs]
  generalize vHasAll args (types.getD 0 ty0) = b0
  generalize tGood (types.getD 0 ty0) = b1
  generalize args.length = la
  generalize types.length = lt
  generalize code.length = lc
  rw [Bool.eq_iff_iff]
  cases b0 <;> cases b1 <;> cases s <;> simp <;> omega
theorem rb9 (n a : Int) (s : List UInt8) (args : List Vl) (types : List Ty) (code : List Nd) (ts : List Ty) : vHas (.mk 9 n a s args types code) (.mk 9 ts) = (bareB (.mk 9 n a s args types code) false false false args.length 0 false && (decide ((args.length : Int) ≤ 1) && vHasAll args (tyArg (.mk 9 ts) 0))) := by
  rw [vHas_eq]
  simp only [bareB, vBody, vPlain, tyT, tyArgs]
  generalize vHasAll args (tyArg (.mk 9 ts) 0) = b0
  generalize args.length = la
  generalize types.length = lt
  generalize code.length = lc
  rw [Bool.eq_iff_iff]
  cases b0 <;> cases s <;> simp <;> omega
theorem rb10 (n a : Int) (s : List UInt8) (args : List Vl) (types : List Ty) (code : List Nd) (ts : List Ty) : vHas (.mk 10 n a s args types code) (.mk 10 ts) = (bareB (.mk 10 n a s args types code) false false false args.length 0 false && (decide ((args.length : Int) ≤ 24) && vHasAll args (tyArg (.mk 10 ts) 0))) := by
  rw [vHas_eq]
  simp only [bareB, vBody, vPlain, tyT, tyArgs]
  generalize vHasAll args (tyArg (.mk 10 ts) 0) = b0
  generalize args.length = la
  generalize types.length = lt
  generalize code.length = lc
  rw [Bool.eq_iff_iff]
  cases b0 <;> cases s <;> simp <;> omega
theorem rb11 (n a : Int) (s : List UInt8) (args : List Vl) (types : List Ty) (code : List Nd) (ts : List Ty) : vHas (.mk 11 n a s args types code) (.mk 11 ts) = (bareB (.mk 11 n a s args types code) false false false 2 0 false && vHasRow args ts) := by
  rw [vHas_eq]
  simp only [bareB, vBody, vPlain, tyT, tyArgs]
  generalize vHasRow args ts = b0
  generalize args.length = la
  generalize types.length = lt
  generalize code.length = lc
  rw [Bool.eq_iff_iff]
  cases b0 <;> cases s <;> simp <;> omega
theorem rb12 (n a : Int) (s : List UInt8) (args : List Vl) (types : List Ty) (code : List Nd) (ts : List Ty) : vHas (.mk 12 n a s args types code) (.mk 12 ts) = (bareB (.mk 12 n a s args types code) true false false 1 0 false && ((n == 0 || n == 1) && vHasAll args (tyArg (.mk 12 ts) n.toNat))) := by
  rw [vHas_eq]
  simp only [bareB, vBody, vPlain, tyT, tyArgs]
  generalize vHasAll args (tyArg (.mk 12 ts) n.toNat) = b0
  generalize args.length = la
  generalize types.length = lt
  generalize code.length = lc
  rw [Bool.eq_iff_iff]
  cases b0 <;> cases s <;> simp <;> omega
theorem rb13 (n a : Int) (s : List UInt8) (args : List Vl) (types : List Ty) (code : List Nd) (ts : List Ty) : vHas (.mk 13 n a s args types code) (.mk 13 ts) = (bareB (.mk 13 n a s args types code) false false false args.length 0 false && (decide ((args.length : Int) ≤ 24) && (vHasAll args (.mk 11 ts) && vUp args))) := by
  rw [vHas_eq]
  simp only [bareB, vBody, vPlain, tyT, tyArgs]
  generalize vHasAll args (.mk 11 ts) = b0
  generalize vUp args = b1
  generalize args.length = la
  generalize types.length = lt
  generalize code.length = lc
  rw [Bool.eq_iff_iff]
  cases b0 <;> cases b1 <;> cases s <;> simp <;> omega
theorem rb14 (n a : Int) (s : List UInt8) (args : List Vl) (types : List Ty) (code : List Nd) (ts : List Ty) (hl : ts.length = 2) : vHas (.mk 14 n a s args types code) (.mk 14 ts) = (bareB (.mk 14 n a s args types code) false false false 0 2 true && tysSame types ts) := by
  rw [vHas_eq]
  cases s <;> simp [bareB, vBody, vPlain, tyT, tyArgs]
  match ts, hl with
  | [u, u'], _ =>
    rw [Bool.eq_iff_iff]; simp [tyArg, tyArgs, tySame_iff, tysSame_iff]
    constructor
    · rintro h
      match types, h with
      | [w, w'], h => simp at h ⊢; obtain ⟨h1, h2⟩ := h; simp_all
    · rintro h
      obtain ⟨h1, h2⟩ := h
      simp_all
theorem rb15 (n a : Int) (s : List UInt8) (args : List Vl) (types : List Ty) (code : List Nd) (ts : List Ty) : vHas (.mk 15 n a s args types code) (.mk 15 ts) = (bareB (.mk 15 n a s args types code) true true false 1 0 false && (decide (0 ≤ n ∧ n ≤ maxI) && (decide (n > 0) && (decide (0 ≤ a ∧ a < 12) && vHasAll args (tyArg (.mk 15 ts) 0))))) := by
  rw [vHas_eq]
  simp only [bareB, vBody, vPlain, tyT, tyArgs]
  generalize vHasAll args (tyArg (.mk 15 ts) 0) = b0
  generalize args.length = la
  generalize types.length = lt
  generalize code.length = lc
  rw [Bool.eq_iff_iff]
  cases b0 <;> cases s <;> simp <;> omega
end Go.Abs
