/- For every type and value, Node and Pack answer exactly what P4.4 and P4.6 say, errors too. -/
import Derived.Test.YtcinhjfonmjneaaHead
import Derived.Test.YtcinhjfonmjneaaTells
import Derived.Test.YtcinhjfonmjneaaRead
import Derived.WalkKit
import Derived.ProofKit
import Derived.OpenShut
import Derived.JoinedCond
set_option linter.unusedVariables false
set_option linter.unusedSimpArgs false
namespace Go.Proofs.Ytcinhjfonmjneaa.valueTells
open Go.ChangeShapes Go.WideShapes Go.ChangeAt Go.RowKit Go.Abs

theorem c4 : Try.f20.params.all (Try.prog.readableRec ·) = true := by kernel_rfl
theorem c10 : (Rows.valueTellsUptoRow.inPlace == Try.prog.inPlace 20) = true := by kernel_rfl
theorem c11 : (Rows.valueTellsUptoRow.unfollowed == Try.prog.unfollowed 20) = true := by kernel_rfl
theorem c12 : (Rows.valueTellsUptoRow.recurses == Try.prog.recurses 20) = true := by kernel_rfl
theorem c13 : (Rows.valueTellsUptoRow.named == Try.prog.varsNamed 20) = true := by kernel_rfl
theorem c19 : (Rows.valueTellsUptoRow.plainKeys == Try.prog.plainKeys) = true := by rw [Try.keys]; rfl
theorem c21 : (Rows.valueTellsUptoRow.lifted == Try.prog.liftsFinal) = true := by rw [Try.final]; rfl
theorem c22 : (Try.prog.make == some Rows.valueTellsUptoRow.make) = true := by rw [Try.make]; rfl
theorem closed : joinedFacts Try.prog 20 Try.f20 (Rows.OpenSpec.upto Rows.valueTellsSpec).bare Rows.valueTellsUptoRow = true :=
  joined_of (by kernel_rfl) Try.laid Try.rowed c4 (by kernel_rfl) rfl Try.stops rfl Try.knobs c10 c11 c12 c13 (by kernel_rfl) (by kernel_rfl) (by kernel_rfl) c19 rfl Try.heard Try.enter c21 c22 (by kernel_rfl) (by kernel_rfl) (by kernel_rfl) (by kernel_rfl)
theorem named : Try.prog.funcNamed Rows.valueTellsUptoRow.func = some 20 := by kernel_rfl

set_option maxRecDepth 100000 in
theorem lifted (os : Os) (started : os.Started) (H : Type) (enc : TypeId × Value → H) (F : Stop.Interp) :
    ReturnsInHanded {} Try.checked os 20 .any ((Rows.OpenSpec.upto Rows.valueTellsSpec).pre6 enc Try.prog Try.f20 Rows.valueTellsUptoRow.domain false) (((Rows.OpenSpec.upto Rows.valueTellsSpec).at F).post enc Try.prog Try.f20 false true false false) := by
  refine returnsInHanded_of_cond (C := Try.checked) (s := (Rows.OpenSpec.upto Rows.valueTellsSpec)) (k := Rows.uptoSmall) rfl Try.own started (by kernel_rfl) Try.func20
    (OpenSpec.witness (enc := enc) (C := Try.checked) (s := (Rows.OpenSpec.upto Rows.valueTellsSpec)) (k := Rows.uptoSmall) rfl false ⟨#[], #[.agg #[.int .i64 0, .slice none 0 0], .agg #[.int .i64 0, .int .i64 0, .int .i64 0, .string .empty, .slice none 0 0, .slice none 0 0, .slice none 0 0]], []⟩ 8 (by kernel_rfl) (by kernel_rfl) (by kernel_rfl)
      (x := ([.agg [.lit (.int .i64 0), .nil], .agg [.lit (.int .i64 0), .lit (.int .i64 0), .lit (.int .i64 0), .lit (.string []), .nil, .nil, .nil]], [], [])) (by kernel_rfl) rfl (by kernel_rfl)) ?_
  intro W base args ds gs before hval0 hW hcnd hk _
  have hval : ∀ (j : Nat) t v, Try.f20.params[j]? = some t → args[j]? = some v → Value.okWide Try.prog W .any base t v := hval0
  have hW' := hW
  obtain ⟨p, q, hA0, hV, rfl, hfz, hnd⟩ := hW
  have hA : DataW.TrodAll enc Try.prog W 0 (fun _ => true) true Try.f20.params.toList args.toList ds p := hA0
  rw [Try.params20] at hA hval
  obtain ⟨v0, vs0, d0, ds0, p0, q0, hargs, rfl, rfl, h0, r0⟩ := trodAll_cons hA
  obtain ⟨v1, vs1, d1, ds1, p1, q1, rfl, rfl, rfl, h1, r1⟩ := trodAll_cons r0
  obtain ⟨rfl, rfl, rfl⟩ := trodAll_nil r1
  obtain rfl : args = #[v0, v1] := by cases args; simp_all
  obtain ⟨rfl, rfl⟩ := trodVars_none hV
  have hsm : Rows.uptoBulkAll ([d0, d1] ++ []) ≤ 1048576 := of_decide_eq_true hk
  simp only [List.append_nil, Rows.uptoBulkAll] at hsm
  obtain ⟨a0, e0, w0, b0⟩ := openTy (hval 0 35 v0 rfl rfl) h0
  obtain ⟨a1, e1, w1, b1⟩ := openVl (hval 1 56 v1 rfl rfl) h1
  exact law_step (X := Try.X) (ValueTells_calls a0 w0 (by omega) a1 w1 (by omega)) (by simp only [RelL]; exact ⟨_, _, rfl, e0, ⟨_, _, rfl, e1, rfl⟩⟩) (fun _ => rfl) hW' rfl Try.laid Try.rowed Try.full (by kernel_rfl) (by kernel_rfl) Try.underlying4 rfl

/-- The row. -/
theorem over : Rows.valueTellsUptoRow.holds Try.pinned (Rows.OpenSpec.upto Rows.valueTellsSpec) :=
  OpenClaim.holds_of_cond 20 Try.f20 rfl rfl rfl rfl rfl rfl rfl ⟨rfl, rfl, rfl, rfl, rfl⟩ rfl rfl rfl rfl rfl named Try.func20 closed
    (of_decide_eq_true (by kernel_rfl)) (by unfold Func.isWrapper; first | (rw [if_pos (by decide +kernel)]; kernel_rfl) | (rw [if_neg (by decide +kernel)]; exact ⟨rfl, rfl⟩))
    (fun os started H enc _ F => lifted os started H enc F)

theorem proved : Rows.ValueTellsUptoSaid := over
#print axioms proved
end Go.Proofs.Ytcinhjfonmjneaa.valueTells
