/- What the arguments of the laws read as: closed values of the chain's data. -/
import Derived.Test.YtcinhjfonmjneaaRows
import Derived.Test.YtcinhjfonmjneaaData
import Derived.Test.YtcinhjfonmjneaaCtx
import Derived.WalkKit
import Derived.ProofKit
import Derived.OpenShut
set_option linter.unusedVariables false
set_option linter.unusedSimpArgs false
namespace Go.Proofs
open Go.Abs Go.ChangeShapes Go.WideShapes Go.ChangeAt Go.RowKit

theorem bulkAll_sum {H : Type} : ∀ (l : List (DataW H)), (l.map Ytcinhjfonmjneaa.Rows.uptoBulk).sum = Ytcinhjfonmjneaa.Rows.uptoBulkAll l
  | [] => rfl
  | d :: l => by simp only [List.map_cons, List.sum_cons, Ytcinhjfonmjneaa.Rows.uptoBulkAll, bulkAll_sum l]

theorem bulkOk {H : Type} : BulkOk (H := H) Ytcinhjfonmjneaa.Rows.uptoBulk where
  lit := fun l => by cases l <;> simp [Ytcinhjfonmjneaa.Rows.uptoBulk]
  str := fun s => by simp [Ytcinhjfonmjneaa.Rows.uptoBulk]
  nil := by simp [Ytcinhjfonmjneaa.Rows.uptoBulk]
  slice := fun l r => by rw [bulkAll_sum]; simp only [Ytcinhjfonmjneaa.Rows.uptoBulk]; omega
  agg := fun l => by rw [bulkAll_sum]; simp only [Ytcinhjfonmjneaa.Rows.uptoBulk]; omega

def RTy : CV → Nat → Prop := fun c m => ∃ t : Ty, c = encTy t ∧ tyWf t ∧ tySize t ≤ m
def RNd : CV → Nat → Prop := fun c m => ∃ t : Nd, c = encNd t ∧ ndWf t ∧ ndSize t ≤ m
def RVl : CV → Nat → Prop := fun c m => ∃ t : Vl, c = encVl t ∧ vlWf t ∧ vlSize t ≤ m

theorem rows_tys : ∀ {rows : List CV} {m : Nat}, RowsR RTy rows m → ∃ l : List Ty, rows = encTys l ∧ tysWf l ∧ tysSize l ≤ m
  | [], m, _ => ⟨[], rfl, trivial, by simp [tysSize]⟩
  | r :: rows, m, ⟨k, m', ⟨t, h1, h2, h3⟩, h4, h5⟩ => by
    obtain ⟨l, e1, e2, e3⟩ := rows_tys h4
    exact ⟨t :: l, by rw [h1, e1]; rfl, ⟨h2, e2⟩, by simp only [tysSize]; omega⟩
theorem rows_nds : ∀ {rows : List CV} {m : Nat}, RowsR RNd rows m → ∃ l : List Nd, rows = encNds l ∧ ndsWf l ∧ ndsSize l ≤ m
  | [], m, _ => ⟨[], rfl, trivial, by simp [ndsSize]⟩
  | r :: rows, m, ⟨k, m', ⟨t, h1, h2, h3⟩, h4, h5⟩ => by
    obtain ⟨l, e1, e2, e3⟩ := rows_nds h4
    exact ⟨t :: l, by rw [h1, e1]; rfl, ⟨h2, e2⟩, by simp only [ndsSize]; omega⟩
theorem rows_vls : ∀ {rows : List CV} {m : Nat}, RowsR RVl rows m → ∃ l : List Vl, rows = encVls l ∧ vlsWf l ∧ vlsSize l ≤ m
  | [], m, _ => ⟨[], rfl, trivial, by simp [vlsSize]⟩
  | r :: rows, m, ⟨k, m', ⟨t, h1, h2, h3⟩, h4, h5⟩ => by
    obtain ⟨l, e1, e2, e3⟩ := rows_vls h4
    exact ⟨t :: l, by rw [h1, e1]; rfl, ⟨h2, e2⟩, by simp only [vlsSize]; omega⟩

abbrev Rint : CV → Nat → Prop := fun c k => ∃ z, c = .int .i64 z ∧ (Lit.int .i64 z).wf = true ∧ 1 ≤ k
abbrev Rstr : CV → Nat → Prop := fun c k => ∃ s, c = .str s ∧ s.length + 1 ≤ k
abbrev Rsl (s : Nat) (R : CV → Nat → Prop) : CV → Nat → Prop := fun c k => ∃ rows, c = .sl s rows ∧ ∃ m', RowsR R rows m' ∧ m' + 1 ≤ k

theorem cells_int : Try.prog.cellsOf 3 = 1 := by kernel_rfl
theorem cells_str : Try.prog.cellsOf 9 = 1 := by kernel_rfl
theorem cells_tys : Try.prog.cellsOf 33 = 1 := by kernel_rfl
theorem cells_nds : Try.prog.cellsOf 30 = 1 := by kernel_rfl
theorem cells_vls : Try.prog.cellsOf 54 = 1 := by kernel_rfl
theorem cells_ty : Try.prog.cellsOf 35 = 2 := by kernel_rfl
theorem cells_nd : Try.prog.cellsOf 32 = 5 := by kernel_rfl
theorem cells_vl : Try.prog.cellsOf 56 = 7 := by kernel_rfl

section
variable {H : Type} {enc : TypeId × Value → H} {W : World}

theorem rdSl {m e t s : Nat} {R : CV → Nat → Prop} (hu : Try.prog.underlying t = some (.slice e)) (hs : Try.prog.cellsOf e = s) (h0 : 0 < s) (h : ∀ k, k < m → RD enc Try.prog W Ytcinhjfonmjneaa.Rows.uptoBulk k e R) :
    RD (H := H) enc Try.prog W Ytcinhjfonmjneaa.Rows.uptoBulk m t (Rsl s R) := by
  cases m with
  | zero => exact RD.zero
  | succ k => exact RD.slice bulkOk hu hs h0 (h k (by omega))

theorem rdTy : ∀ (n m : Nat), m ≤ n → RD (H := H) enc Try.prog W Ytcinhjfonmjneaa.Rows.uptoBulk m 35 RTy
  | 0, m, hm => by obtain rfl : m = 0 := by omega
                   exact RD.zero
  | n + 1, 0, _ => RD.zero
  | n + 1, m + 1, hm => by
    refine RD.mono (RD.struct bulkOk Try.underlying35 rfl (Rs := [Rint, Rsl 2 RTy]) (fun k hk => ?_) ?_) (Nat.le_refl _) ?_
    · exact ⟨_, _, rfl, rfl, RD.int bulkOk Try.underlying3, _, _, rfl, by rw [cells_int], rdSl Try.underlying33 cells_ty (by decide) (fun q hq => rdTy n q (by omega)), rfl⟩
    · simp only [List.map, fieldsEnd, cells_int, cells_tys, cells_ty]
    · rintro c k ⟨l, rfl, m', hF, hle⟩
      obtain ⟨c1, k1, l1, m1, rfl, ⟨z, rfl, hz, _⟩, ⟨c2, k2, l2, m2, rfl, ⟨rows, rfl, m3, hr, h3⟩, rfl, h4⟩, h5⟩ := hF
      obtain ⟨tl, rfl, e2, e3⟩ := rows_tys hr
      exact ⟨.mk z tl, rfl, ⟨bounds_i64 hz, e2⟩, by simp only [tySize]; omega⟩

theorem rdNd : ∀ (n m : Nat), m ≤ n → RD (H := H) enc Try.prog W Ytcinhjfonmjneaa.Rows.uptoBulk m 32 RNd
  | 0, m, hm => by obtain rfl : m = 0 := by omega
                   exact RD.zero
  | n + 1, 0, _ => RD.zero
  | n + 1, m + 1, hm => by
    refine RD.mono (RD.struct bulkOk Try.underlying32 rfl (Rs := [Rint, Rint, Rint, Rstr, Rsl 5 RNd]) (fun k hk => ?_) ?_) (Nat.le_refl _) ?_
    · exact ⟨_, _, rfl, rfl, RD.int bulkOk Try.underlying3, _, _, rfl, by rw [cells_int], RD.int bulkOk Try.underlying3, _, _, rfl, by rw [cells_int], RD.int bulkOk Try.underlying3,
        _, _, rfl, by rw [cells_int], RD.str bulkOk Try.underlying9, _, _, rfl, by rw [cells_int, cells_str], rdSl Try.underlying30 cells_nd (by decide) (fun q hq => rdNd n q (by omega)), rfl⟩
    · simp only [List.map, fieldsEnd, cells_int, cells_str, cells_nds, cells_nd]
    · rintro c k ⟨l, rfl, m', hF, hle⟩
      obtain ⟨c1, k1, l1, m1, rfl, ⟨z, rfl, hz, _⟩, ⟨c2, k2, l2, m2, rfl, ⟨z2, rfl, hz2, _⟩, ⟨c3, k3, l3, m3, rfl, ⟨z3, rfl, hz3, _⟩, ⟨c4, k4, l4, m4, rfl, ⟨s, rfl, hs⟩, ⟨c5, k5, l5, m5, rfl, ⟨rows, rfl, m6, hr, h6⟩, rfl, h7⟩, h8⟩, h9⟩, h10⟩, h11⟩ := hF
      obtain ⟨tl, rfl, e2, e3⟩ := rows_nds hr
      exact ⟨.mk z z2 z3 s tl, rfl, ⟨bounds_i64 hz, bounds_i64 hz2, bounds_i64 hz3, e2⟩, by simp only [ndSize]; omega⟩

theorem rdVl : ∀ (n m : Nat), m ≤ n → RD (H := H) enc Try.prog W Ytcinhjfonmjneaa.Rows.uptoBulk m 56 RVl
  | 0, m, hm => by obtain rfl : m = 0 := by omega
                   exact RD.zero
  | n + 1, 0, _ => RD.zero
  | n + 1, m + 1, hm => by
    refine RD.mono (RD.struct bulkOk Try.underlying56 rfl (Rs := [Rint, Rint, Rint, Rstr, Rsl 7 RVl, Rsl 2 RTy, Rsl 5 RNd]) (fun k hk => ?_) ?_) (Nat.le_refl _) ?_
    · exact ⟨_, _, rfl, rfl, RD.int bulkOk Try.underlying3, _, _, rfl, by rw [cells_int], RD.int bulkOk Try.underlying3, _, _, rfl, by rw [cells_int], RD.int bulkOk Try.underlying3,
        _, _, rfl, by rw [cells_int], RD.str bulkOk Try.underlying9, _, _, rfl, by rw [cells_int, cells_str], rdSl Try.underlying54 cells_vl (by decide) (fun q hq => rdVl n q (by omega)),
        _, _, rfl, by rw [cells_int, cells_str, cells_vls], rdSl Try.underlying33 cells_ty (by decide) (fun q hq => rdTy q q (Nat.le_refl _)),
        _, _, rfl, by rw [cells_int, cells_str, cells_vls, cells_tys], rdSl Try.underlying30 cells_nd (by decide) (fun q hq => rdNd q q (Nat.le_refl _)), rfl⟩
    · simp only [List.map, fieldsEnd, cells_int, cells_str, cells_vls, cells_tys, cells_nds, cells_vl]
    · rintro c k ⟨l, rfl, m', hF, hle⟩
      obtain ⟨c1, k1, l1, m1, rfl, ⟨z, rfl, hz, _⟩, ⟨c2, k2, l2, m2, rfl, ⟨z2, rfl, hz2, _⟩, ⟨c3, k3, l3, m3, rfl, ⟨z3, rfl, hz3, _⟩, ⟨c4, k4, l4, m4, rfl, ⟨s, rfl, hs⟩, ⟨c5, k5, l5, m5, rfl, ⟨rows, rfl, m6, hr, h6⟩,
        ⟨c6, k6, l6, m7, rfl, ⟨rows2, rfl, m8, hr2, g6⟩, ⟨c7, k7, l7, m9, rfl, ⟨rows3, rfl, m10, hr3, g7⟩, rfl, g8⟩, g9⟩, h7⟩, h8⟩, h9⟩, h10⟩, h11⟩ := hF
      obtain ⟨tl, rfl, e2, e3⟩ := rows_vls hr
      obtain ⟨tl2, rfl, f2, f3⟩ := rows_tys hr2
      obtain ⟨tl3, rfl, q2, q3⟩ := rows_nds hr3
      exact ⟨.mk z z2 z3 s tl tl2 tl3, rfl, ⟨bounds_i64 hz, bounds_i64 hz2, bounds_i64 hz3, e2, f2, q2⟩, by simp only [vlSize]; omega⟩

set_option maxRecDepth 100000 in
theorem openTy {v : Value} {d : DataW H} {ps : List MemPlace} {b0 : Nat} {r : Reach} (hok : Value.okWide Try.prog W r b0 35 v) (hd : DataW.Trod enc Try.prog W 0 (fun _ => true) true 35 v d ps) :
    ∃ a : Ty, Rel (ImmOf W) (encTy a) v ∧ tyWf a ∧ tySize a ≤ Ytcinhjfonmjneaa.Rows.uptoBulk d := by
  obtain ⟨c, h1, h⟩ := rel_of_trod_agg (R := RTy) Try.underlying35 (fun n => rdTy n n (Nat.le_refl _)) hd hok (fun c k h => by obtain ⟨t, h, _⟩ := h; cases t; exact ⟨_, h⟩)
  obtain ⟨a, rfl, h2, h3⟩ := h
  exact ⟨a, h1, h2, h3⟩
set_option maxRecDepth 100000 in
theorem openVl {v : Value} {d : DataW H} {ps : List MemPlace} {b0 : Nat} {r : Reach} (hok : Value.okWide Try.prog W r b0 56 v) (hd : DataW.Trod enc Try.prog W 0 (fun _ => true) true 56 v d ps) :
    ∃ a : Vl, Rel (ImmOf W) (encVl a) v ∧ vlWf a ∧ vlSize a ≤ Ytcinhjfonmjneaa.Rows.uptoBulk d := by
  obtain ⟨c, h1, h⟩ := rel_of_trod_agg (R := RVl) Try.underlying56 (fun n => rdVl n n (Nat.le_refl _)) hd hok (fun c k h => by obtain ⟨t, h, _⟩ := h; cases t; exact ⟨_, h⟩)
  obtain ⟨a, rfl, h2, h3⟩ := h
  exact ⟨a, h1, h2, h3⟩
end
end Go.Proofs
