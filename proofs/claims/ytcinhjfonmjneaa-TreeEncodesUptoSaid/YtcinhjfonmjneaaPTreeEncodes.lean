/- For every tree, Good and Encode answer exactly what P2.1 and P2.2 say, errors too. -/
import Derived.Test.YtcinhjfonmjneaaHead
import Derived.Test.YtcinhjfonmjneaaEnc
import Derived.Test.YtcinhjfonmjneaaRead
import Derived.WalkKit
import Derived.ProofKit
import Derived.OpenShut
import Derived.JoinedCond
set_option linter.unusedVariables false
set_option linter.unusedSimpArgs false
namespace Go.Proofs.Ytcinhjfonmjneaa.treeEncodes
open Go.ChangeShapes Go.WideShapes Go.ChangeAt Go.RowKit Go.Abs

theorem c4 : Try.f7.params.all (Try.prog.readableRec ·) = true := by kernel_rfl
theorem c10 : (Rows.treeEncodesUptoRow.inPlace == Try.prog.inPlace 7) = true := by kernel_rfl
theorem c11 : (Rows.treeEncodesUptoRow.unfollowed == Try.prog.unfollowed 7) = true := by kernel_rfl
theorem c12 : (Rows.treeEncodesUptoRow.recurses == Try.prog.recurses 7) = true := by kernel_rfl
theorem c13 : (Rows.treeEncodesUptoRow.named == Try.prog.varsNamed 7) = true := by kernel_rfl
theorem c19 : (Rows.treeEncodesUptoRow.plainKeys == Try.prog.plainKeys) = true := by rw [Try.keys]; rfl
theorem c21 : (Rows.treeEncodesUptoRow.lifted == Try.prog.liftsFinal) = true := by rw [Try.final]; rfl
theorem c22 : (Try.prog.make == some Rows.treeEncodesUptoRow.make) = true := by rw [Try.make]; rfl
theorem closed : joinedFacts Try.prog 7 Try.f7 (Rows.OpenSpec.upto Rows.treeEncodesSpec).bare Rows.treeEncodesUptoRow = true :=
  joined_of (by kernel_rfl) Try.laid Try.rowed c4 (by kernel_rfl) rfl Try.stops rfl Try.knobs c10 c11 c12 c13 (by kernel_rfl) (by kernel_rfl) (by kernel_rfl) c19 rfl Try.heard Try.enter c21 c22 (by kernel_rfl) (by kernel_rfl) (by kernel_rfl) (by kernel_rfl)
theorem named : Try.prog.funcNamed Rows.treeEncodesUptoRow.func = some 7 := by kernel_rfl

set_option maxRecDepth 100000 in
theorem lifted (os : Os) (started : os.Started) (H : Type) (enc : TypeId × Value → H) (F : Stop.Interp) :
    ReturnsInHanded {} Try.checked os 7 .any ((Rows.OpenSpec.upto Rows.treeEncodesSpec).pre6 enc Try.prog Try.f7 Rows.treeEncodesUptoRow.domain false) (((Rows.OpenSpec.upto Rows.treeEncodesSpec).at F).post enc Try.prog Try.f7 false true false false) := by
  refine returnsInHanded_of_cond (C := Try.checked) (s := (Rows.OpenSpec.upto Rows.treeEncodesSpec)) (k := Rows.uptoSmall) rfl Try.own started (by kernel_rfl) Try.func7
    (OpenSpec.witness (enc := enc) (C := Try.checked) (s := (Rows.OpenSpec.upto Rows.treeEncodesSpec)) (k := Rows.uptoSmall) rfl false ⟨#[], #[.agg #[.int .i64 0, .int .i64 0, .int .i64 0, .string .empty, .slice none 0 0]], []⟩ 8 (by kernel_rfl) (by kernel_rfl) (by kernel_rfl)
      (x := ([.agg [.lit (.int .i64 0), .lit (.int .i64 0), .lit (.int .i64 0), .lit (.string []), .nil]], [], [])) (by kernel_rfl) rfl (by kernel_rfl)) ?_
  intro W base args ds gs before hval0 hW hcnd hk _
  have hval : ∀ (j : Nat) t v, Try.f7.params[j]? = some t → args[j]? = some v → Value.okWide Try.prog W .any base t v := hval0
  have hW' := hW
  obtain ⟨p, q, hA0, hV, rfl, hfz, hnd⟩ := hW
  have hA : DataW.TrodAll enc Try.prog W 0 (fun _ => true) true Try.f7.params.toList args.toList ds p := hA0
  rw [Try.params7] at hA hval
  obtain ⟨v0, vs0, d0, ds0, p0, q0, hargs, rfl, rfl, h0, r0⟩ := trodAll_cons hA
  obtain ⟨rfl, rfl, rfl⟩ := trodAll_nil r0
  obtain rfl : args = #[v0] := by cases args; simp_all
  obtain ⟨rfl, rfl⟩ := trodVars_none hV
  have hsm : Rows.uptoBulkAll ([d0] ++ []) ≤ 1048576 := of_decide_eq_true hk
  simp only [List.append_nil, Rows.uptoBulkAll] at hsm
  obtain ⟨a0, e0, w0, b0⟩ := openNd (hval 0 32 v0 rfl rfl) h0
  exact law_step (X := Try.X) (TreeEncodes_calls a0 w0 (by omega)) (by simp only [RelL]; exact ⟨_, _, rfl, e0, rfl⟩) (fun _ => rfl) hW' rfl Try.laid Try.rowed Try.full (by kernel_rfl) (by kernel_rfl) Try.underlying4 rfl

/-- The row. -/
theorem over : Rows.treeEncodesUptoRow.holds Try.pinned (Rows.OpenSpec.upto Rows.treeEncodesSpec) :=
  OpenClaim.holds_of_cond 7 Try.f7 rfl rfl rfl rfl rfl rfl rfl ⟨rfl, rfl, rfl, rfl, rfl⟩ rfl rfl rfl rfl rfl named Try.func7 closed
    (of_decide_eq_true (by kernel_rfl)) (by unfold Func.isWrapper; first | (rw [if_pos (by decide +kernel)]; kernel_rfl) | (rw [if_neg (by decide +kernel)]; exact ⟨rfl, rfl⟩))
    (fun os started H enc _ F => lifted os started H enc F)

theorem proved : Rows.TreeEncodesUptoSaid := over
#print axioms proved
end Go.Proofs.Ytcinhjfonmjneaa.treeEncodes
