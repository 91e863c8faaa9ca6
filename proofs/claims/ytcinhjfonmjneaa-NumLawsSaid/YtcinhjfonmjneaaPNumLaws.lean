/- For all numbers a call of touchstonekeep.NumLaws returns true and leaves its arguments as they were; no condition. -/
import Derived.Test.YtcinhjfonmjneaaHead
import Derived.Test.YtcinhjfonmjneaaNumLaw
import Derived.WalkKit
import Derived.ProofKit
import Derived.OpenShut
set_option linter.unusedVariables false
set_option linter.unusedSimpArgs false
namespace Go.Proofs.Ytcinhjfonmjneaa.numLaws
open Go.ChangeShapes Go.WideShapes Go.ChangeAt Go.RowKit Go.Abs

theorem c4 : Try.f8.params.all (Try.prog.readableRec ·) = true := by kernel_rfl
theorem c10 : (Rows.numLawsRow.inPlace == Try.prog.inPlace 8) = true := by kernel_rfl
theorem c11 : (Rows.numLawsRow.unfollowed == Try.prog.unfollowed 8) = true := by kernel_rfl
theorem c12 : (Rows.numLawsRow.recurses == Try.prog.recurses 8) = true := by kernel_rfl
theorem c13 : (Rows.numLawsRow.named == Try.prog.varsNamed 8) = true := by kernel_rfl
theorem c19 : (Rows.numLawsRow.plainKeys == Try.prog.plainKeys) = true := by rw [Try.keys]; rfl
theorem c21 : (Rows.numLawsRow.lifted == Try.prog.liftsFinal) = true := by rw [Try.final]; rfl
theorem c22 : (Try.prog.make == some Rows.numLawsRow.make) = true := by rw [Try.make]; rfl
theorem closed : joinedFacts Try.prog 8 Try.f8 Rows.numLawsSpec Rows.numLawsRow = true :=
  joined_of (by kernel_rfl) Try.laid Try.rowed c4 (by kernel_rfl) rfl Try.stops rfl Try.knobs c10 c11 c12 c13 (by kernel_rfl) (by kernel_rfl) (by kernel_rfl) c19 rfl Try.heard Try.enter c21 c22 (by kernel_rfl) (by kernel_rfl) (by kernel_rfl) (by kernel_rfl)
theorem named : Try.prog.funcNamed Rows.numLawsRow.func = some 8 := by kernel_rfl

set_option maxRecDepth 100000 in
theorem lifted (os : Os) (started : os.Started) (H : Type) (enc : TypeId × Value → H) :
    ReturnsInHanded {} Try.checked os 8 .any (Rows.numLawsSpec.pre6 enc Try.prog Try.f8 Rows.numLawsRow.domain false) (Rows.numLawsSpec.post enc Try.prog Try.f8 false true false false) := by
  refine returnsInHanded_of_change (C := Try.checked) Try.own started (by kernel_rfl) Try.func8
    (ChangeSpec.witness6 (enc := enc) (C := Try.checked) false ⟨#[], #[.int .i64 0, .int .i64 0, .int .i64 0], []⟩ 8 (by kernel_rfl) (by kernel_rfl) (by kernel_rfl) (by kernel_rfl)) ?_
  intro W base args ds gs before hval0 hW hcnd _
  have hval : ∀ (j : Nat) t v, Try.f8.params[j]? = some t → args[j]? = some v → Value.okWide Try.prog W .any base t v := hval0
  have hW' := hW
  obtain ⟨p, q, hA0, hV, rfl, hfz, hnd⟩ := hW
  have hA : DataW.TrodAll enc Try.prog W 0 (fun _ => true) true Try.f8.params.toList args.toList ds p := hA0
  rw [Try.params8] at hA hval
  obtain ⟨v0, vs0, d0, ds0, p0, q0, hargs, rfl, rfl, h0, r0⟩ := trodAll_cons hA
  obtain ⟨v1, vs1, d1, ds1, p1, q1, rfl, rfl, rfl, h1, r1⟩ := trodAll_cons r0
  obtain ⟨v2, vs2, d2, ds2, p2, q2, rfl, rfl, rfl, h2, r2⟩ := trodAll_cons r1
  obtain ⟨rfl, rfl, rfl⟩ := trodAll_nil r2
  obtain rfl : args = #[v0, v1, v2] := by cases args; simp_all
  obtain ⟨rfl, rfl⟩ := trodVars_none hV
  obtain ⟨a0, rfl, rfl, rfl, w0⟩ := open_int Try.underlying3 (hval 0 3 v0 rfl rfl) h0
  have b0 := bounds_i64 w0
  obtain ⟨a1, rfl, rfl, rfl, w1⟩ := open_int Try.underlying3 (hval 1 3 v1 rfl rfl) h1
  have b1 := bounds_i64 w1
  obtain ⟨a2, rfl, rfl, rfl, w2⟩ := open_int Try.underlying3 (hval 2 3 v2 rfl rfl) h2
  have b2 := bounds_i64 w2
  exact law_step (X := Try.X) (NumLaws_calls a0 b0 a1 b1 a2 b2) (by simp [RelL, Rel]) (fun _ => rfl) hW' rfl Try.laid Try.rowed Try.full (by kernel_rfl) (by kernel_rfl) Try.underlying4 rfl

/-- The row. -/
theorem over : Rows.numLawsRow.holds Try.pinned (OpenSpec.ofChange Rows.numLawsSpec) :=
  OpenClaim.holds_of_wide 8 Try.f8 rfl rfl rfl rfl rfl rfl rfl ⟨rfl, rfl, rfl, rfl, rfl⟩ rfl rfl rfl rfl rfl named Try.func8 closed
    (of_decide_eq_true (by kernel_rfl)) (by unfold Func.isWrapper; first | (rw [if_pos (by decide +kernel)]; kernel_rfl) | (rw [if_neg (by decide +kernel)]; exact ⟨rfl, rfl⟩))
    (fun os started H enc _ => lifted os started H enc)

theorem proved : Rows.NumLawsSaid := over
#print axioms proved
end Go.Proofs.Ytcinhjfonmjneaa.numLaws
