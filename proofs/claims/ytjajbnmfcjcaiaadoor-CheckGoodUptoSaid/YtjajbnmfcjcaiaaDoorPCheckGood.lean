/- For all code and types whose readings are of bulk at most 1048576 a call of touchstonekeep.CheckGood returns true and leaves its arguments as they were. -/
import Derived.Test.YtjajbnmfcjcaiaaDoorHead
import Derived.Test.YtjajbnmfcjcaiaaDoorGlob
import Derived.WalkKit
import Derived.ProofKit
import Derived.OpenShut
import Derived.JoinedCond
set_option linter.unusedVariables false
set_option linter.unusedSimpArgs false
namespace Go.Proofs.YtjajbnmfcjcaiaaDoor.checkGood
open Go.ChangeShapes Go.WideShapes Go.ChangeAt Go.RowKit Go.Abs

theorem c4 : Tryd.f5.params.all (Tryd.prog.readableRec ·) = true := by kernel_rfl
theorem c10 : (Rows.checkGoodUptoRow.inPlace == Tryd.prog.inPlace 5) = true := by kernel_rfl
theorem c11 : (Rows.checkGoodUptoRow.unfollowed == Tryd.prog.unfollowed 5) = true := by kernel_rfl
theorem c12 : (Rows.checkGoodUptoRow.recurses == Tryd.prog.recurses 5) = true := by kernel_rfl
theorem c13 : (Rows.checkGoodUptoRow.named == Tryd.prog.varsNamed 5) = true := by kernel_rfl
theorem c19 : (Rows.checkGoodUptoRow.plainKeys == Tryd.prog.plainKeys) = true := by rw [Tryd.keys]; rfl
theorem c21 : (Rows.checkGoodUptoRow.lifted == Tryd.prog.liftsFinal) = true := by rw [Tryd.final]; rfl
theorem c22 : (Tryd.prog.make == some Rows.checkGoodUptoRow.make) = true := by rw [Tryd.make]; rfl
theorem closed : joinedFacts Tryd.prog 5 Tryd.f5 (Rows.OpenSpec.upto Rows.checkGoodSpec).bare Rows.checkGoodUptoRow = true :=
  joined_of (by kernel_rfl) Tryd.laid Tryd.rowed c4 (by kernel_rfl) rfl Tryd.stops rfl Tryd.knobs c10 c11 c12 c13 (by kernel_rfl) (by kernel_rfl) (by kernel_rfl) c19 rfl Tryd.heard Tryd.enter c21 c22 (by kernel_rfl) (by kernel_rfl) (by kernel_rfl) (by kernel_rfl)
theorem named : Tryd.prog.funcNamed Rows.checkGoodUptoRow.func = some 5 := by kernel_rfl

set_option maxRecDepth 100000 in
theorem lifted (os : Os) (started : os.Started) (H : Type) (enc : TypeId × Value → H) (F : Stop.Interp) :
    ReturnsInHanded {} Tryd.checked os 5 .any ((Rows.OpenSpec.upto Rows.checkGoodSpec).pre6 enc Tryd.prog Tryd.f5 Rows.checkGoodUptoRow.domain false) (((Rows.OpenSpec.upto Rows.checkGoodSpec).at F).post enc Tryd.prog Tryd.f5 false true false false) := by
  refine returnsShaped (C := Tryd.checked) (s := (Rows.OpenSpec.upto Rows.checkGoodSpec)) (k := Rows.uptoSmall) rfl Tryd.own started (by kernel_rfl) Tryd.func5
    (OpenSpec.witness (enc := enc) (C := Tryd.checked) (s := (Rows.OpenSpec.upto Rows.checkGoodSpec)) (k := Rows.uptoSmall) rfl false ⟨#[], #[.agg #[.int .i64 0, .int .i64 0, .int .i64 0, .string .empty, .slice none 0 0], .slice none 0 0], []⟩ 8 (by kernel_rfl) (by kernel_rfl) (by kernel_rfl)
      (x := ([.agg [.lit (.int .i64 0), .lit (.int .i64 0), .lit (.int .i64 0), .lit (.string []), .nil], .nil], [], [])) (by kernel_rfl) rfl (by kernel_rfl)) ?_
  intro W hS base args ds gs before hval0 hW hcnd hk _
  have hval : ∀ (j : Nat) t v, Tryd.f5.params[j]? = some t → args[j]? = some v → Value.okWide Tryd.prog W .any base t v := hval0
  have hW' := hW
  obtain ⟨p, q, hA0, hV, rfl, hfz, hnd⟩ := hW
  have hA : DataW.TrodAll enc Tryd.prog W 0 (fun _ => true) true Tryd.f5.params.toList args.toList ds p := hA0
  rw [Tryd.params5] at hA hval
  obtain ⟨v0, vs0, d0, ds0, p0, q0, hargs, rfl, rfl, h0, r0⟩ := trodAll_cons hA
  obtain ⟨v1, vs1, d1, ds1, p1, q1, rfl, rfl, rfl, h1, r1⟩ := trodAll_cons r0
  obtain ⟨rfl, rfl, rfl⟩ := trodAll_nil r1
  obtain rfl : args = #[v0, v1] := by cases args; simp_all
  obtain ⟨rfl, rfl⟩ := trodVars_none hV
  have hsm : Rows.uptoBulkAll ([d0, d1] ++ []) ≤ 1048576 := of_decide_eq_true hk
  simp only [List.append_nil, Rows.uptoBulkAll] at hsm
  obtain ⟨a0, e0, w0, b0⟩ := openNd (hval 0 24 v0 rfl rfl) h0
  obtain ⟨a1, e1, w1, b1⟩ := openTys (hval 1 25 v1 rfl rfl) h1
  exact law_stepG (X := Tryd.X) (CheckGood_calls a0 w0 (by omega) a1 w1 (by omega)) (by simp only [RelL]; exact ⟨_, _, rfl, e0, ⟨_, _, rfl, e1, rfl⟩⟩) (Tryd.globOk hS) hW' rfl Tryd.laid Tryd.rowed Tryd.full (by kernel_rfl) (by kernel_rfl) Tryd.underlying4 rfl

/-- The row. -/
theorem over : Rows.checkGoodUptoRow.holds Tryd.pinned (Rows.OpenSpec.upto Rows.checkGoodSpec) :=
  OpenClaim.holds_of_cond 5 Tryd.f5 rfl rfl rfl rfl rfl rfl rfl ⟨rfl, rfl, rfl, rfl, rfl⟩ rfl rfl rfl rfl rfl named Tryd.func5 closed
    (of_decide_eq_true (by kernel_rfl)) (by unfold Func.isWrapper; first | (rw [if_pos (by decide +kernel)]; kernel_rfl) | (rw [if_neg (by decide +kernel)]; exact ⟨rfl, rfl⟩))
    (fun os started H enc _ F => lifted os started H enc F)

theorem proved : Rows.CheckGoodUptoSaid := over
#print axioms proved
end Go.Proofs.YtjajbnmfcjcaiaaDoor.checkGood
