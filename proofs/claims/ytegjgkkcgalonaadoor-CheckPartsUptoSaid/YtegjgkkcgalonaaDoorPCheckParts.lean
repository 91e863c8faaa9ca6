/- For all two pieces of code and all types whose readings are of bulk at most 1048576 a call of touchstonekeep.CheckParts returns true and leaves its arguments as they were. -/
import Derived.Test.YtegjgkkcgalonaaDoorHead
import Derived.Test.YtegjgkkcgalonaaDoorGlob
import Derived.WalkKit
import Derived.ProofKit
import Derived.OpenShut
import Derived.JoinedCond
set_option linter.unusedVariables false
set_option linter.unusedSimpArgs false
namespace Go.Proofs.YtegjgkkcgalonaaDoor.checkParts
open Go.ChangeShapes Go.WideShapes Go.ChangeAt Go.RowKit Go.Abs

theorem c4 : Tryd.f3.params.all (Tryd.prog.readableRec ·) = true := by kernel_rfl
theorem c10 : (Rows.checkPartsUptoRow.inPlace == Tryd.prog.inPlace 3) = true := by kernel_rfl
theorem c11 : (Rows.checkPartsUptoRow.unfollowed == Tryd.prog.unfollowed 3) = true := by kernel_rfl
theorem c12 : (Rows.checkPartsUptoRow.recurses == Tryd.prog.recurses 3) = true := by kernel_rfl
theorem c13 : (Rows.checkPartsUptoRow.named == Tryd.prog.varsNamed 3) = true := by kernel_rfl
theorem c19 : (Rows.checkPartsUptoRow.plainKeys == Tryd.prog.plainKeys) = true := by rw [Tryd.keys]; rfl
theorem c21 : (Rows.checkPartsUptoRow.lifted == Tryd.prog.liftsFinal) = true := by rw [Tryd.final]; rfl
theorem c22 : (Tryd.prog.make == some Rows.checkPartsUptoRow.make) = true := by rw [Tryd.make]; rfl
theorem closed : joinedFacts Tryd.prog 3 Tryd.f3 (Rows.OpenSpec.upto Rows.checkPartsSpec).bare Rows.checkPartsUptoRow = true :=
  joined_of (by kernel_rfl) Tryd.laid Tryd.rowed c4 (by kernel_rfl) rfl Tryd.stops rfl Tryd.knobs c10 c11 c12 c13 (by kernel_rfl) (by kernel_rfl) (by kernel_rfl) c19 rfl Tryd.heard Tryd.enter c21 c22 (by kernel_rfl) (by kernel_rfl) (by kernel_rfl) (by kernel_rfl)
theorem named : Tryd.prog.funcNamed Rows.checkPartsUptoRow.func = some 3 := by kernel_rfl

set_option maxRecDepth 100000 in
theorem lifted (os : Os) (started : os.Started) (H : Type) (enc : TypeId × Value → H) (F : Stop.Interp) :
    ReturnsInHanded {} Tryd.checked os 3 .any ((Rows.OpenSpec.upto Rows.checkPartsSpec).pre6 enc Tryd.prog Tryd.f3 Rows.checkPartsUptoRow.domain false) (((Rows.OpenSpec.upto Rows.checkPartsSpec).at F).post enc Tryd.prog Tryd.f3 false true false false) := by
  refine returnsShaped (C := Tryd.checked) (s := (Rows.OpenSpec.upto Rows.checkPartsSpec)) (k := Rows.uptoSmall) rfl Tryd.own started (by kernel_rfl) Tryd.func3
    (OpenSpec.witness (enc := enc) (C := Tryd.checked) (s := (Rows.OpenSpec.upto Rows.checkPartsSpec)) (k := Rows.uptoSmall) rfl false ⟨#[], #[.agg #[.int .i64 0, .int .i64 0, .int .i64 0, .string .empty, .slice none 0 0], .agg #[.int .i64 0, .int .i64 0, .int .i64 0, .string .empty, .slice none 0 0], .slice none 0 0], []⟩ 8 (by kernel_rfl) (by kernel_rfl) (by kernel_rfl)
      (x := ([.agg [.lit (.int .i64 0), .lit (.int .i64 0), .lit (.int .i64 0), .lit (.string []), .nil], .agg [.lit (.int .i64 0), .lit (.int .i64 0), .lit (.int .i64 0), .lit (.string []), .nil], .nil], [], [])) (by kernel_rfl) rfl (by kernel_rfl)) ?_
  intro W hS base args ds gs before hval0 hW hcnd hk _
  have hval : ∀ (j : Nat) t v, Tryd.f3.params[j]? = some t → args[j]? = some v → Value.okWide Tryd.prog W .any base t v := hval0
  have hW' := hW
  obtain ⟨p, q, hA0, hV, rfl, hfz, hnd⟩ := hW
  have hA : DataW.TrodAll enc Tryd.prog W 0 (fun _ => true) true Tryd.f3.params.toList args.toList ds p := hA0
  rw [Tryd.params3] at hA hval
  obtain ⟨v0, vs0, d0, ds0, p0, q0, hargs, rfl, rfl, h0, r0⟩ := trodAll_cons hA
  obtain ⟨v1, vs1, d1, ds1, p1, q1, rfl, rfl, rfl, h1, r1⟩ := trodAll_cons r0
  obtain ⟨v2, vs2, d2, ds2, p2, q2, rfl, rfl, rfl, h2, r2⟩ := trodAll_cons r1
  obtain ⟨rfl, rfl, rfl⟩ := trodAll_nil r2
  obtain rfl : args = #[v0, v1, v2] := by cases args; simp_all
  obtain ⟨rfl, rfl⟩ := trodVars_none hV
  have hsm : Rows.uptoBulkAll ([d0, d1, d2] ++ []) ≤ 1048576 := of_decide_eq_true hk
  simp only [List.append_nil, Rows.uptoBulkAll] at hsm
  obtain ⟨a0, e0, w0, b0⟩ := openNd (hval 0 24 v0 rfl rfl) h0
  obtain ⟨a1, e1, w1, b1⟩ := openNd (hval 1 24 v1 rfl rfl) h1
  obtain ⟨a2, e2, w2, b2⟩ := openTys (hval 2 25 v2 rfl rfl) h2
  exact law_stepG (X := Tryd.X) (CheckParts_calls a0 w0 (by omega) a1 w1 (by omega) a2 w2 (by omega)) (by simp only [RelL]; exact ⟨_, _, rfl, e0, ⟨_, _, rfl, e1, ⟨_, _, rfl, e2, rfl⟩⟩⟩) (Tryd.globOk hS) hW' rfl Tryd.laid Tryd.rowed Tryd.full (by kernel_rfl) (by kernel_rfl) Tryd.underlying4 rfl

/-- The row. -/
theorem over : Rows.checkPartsUptoRow.holds Tryd.pinned (Rows.OpenSpec.upto Rows.checkPartsSpec) :=
  OpenClaim.holds_of_cond 3 Tryd.f3 rfl rfl rfl rfl rfl rfl rfl ⟨rfl, rfl, rfl, rfl, rfl⟩ rfl rfl rfl rfl rfl named Tryd.func3 closed
    (of_decide_eq_true (by kernel_rfl)) (by unfold Func.isWrapper; first | (rw [if_pos (by decide +kernel)]; kernel_rfl) | (rw [if_neg (by decide +kernel)]; exact ⟨rfl, rfl⟩))
    (fun os started H enc _ F => lifted os started H enc F)

theorem proved : Rows.CheckPartsUptoSaid := over
#print axioms proved
end Go.Proofs.YtegjgkkcgalonaaDoor.checkParts
