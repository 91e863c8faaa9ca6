/- The call of touchstonelaw.Names returns true; no condition. -/
import Derived.Test.YtcinhjfonmjneaaHead
import Derived.Test.YtcinhjfonmjneaaNames
import Derived.WalkKit
import Derived.ProofKit
import Derived.OpenShut
set_option linter.unusedVariables false
set_option linter.unusedSimpArgs false
namespace Go.Proofs.Ytcinhjfonmjneaa.names
open Go.ChangeShapes Go.WideShapes Go.ChangeAt Go.RowKit Go.Abs

theorem c4 : Try.f3.params.all (Try.prog.readableRec ·) = true := by kernel_rfl
theorem c10 : (Rows.namesRow.inPlace == Try.prog.inPlace 3) = true := by kernel_rfl
theorem c11 : (Rows.namesRow.unfollowed == Try.prog.unfollowed 3) = true := by kernel_rfl
theorem c12 : (Rows.namesRow.recurses == Try.prog.recurses 3) = true := by kernel_rfl
theorem c13 : (Rows.namesRow.named == Try.prog.varsNamed 3) = true := by kernel_rfl
theorem c19 : (Rows.namesRow.plainKeys == Try.prog.plainKeys) = true := by rw [Try.keys]; rfl
theorem c21 : (Rows.namesRow.lifted == Try.prog.liftsFinal) = true := by rw [Try.final]; rfl
theorem c22 : (Try.prog.make == some Rows.namesRow.make) = true := by rw [Try.make]; rfl
theorem closed : joinedFacts Try.prog 3 Try.f3 Rows.namesSpec Rows.namesRow = true :=
  joined_of (by kernel_rfl) Try.laid Try.rowed c4 (by kernel_rfl) rfl Try.stops rfl Try.knobs c10 c11 c12 c13 (by kernel_rfl) (by kernel_rfl) (by kernel_rfl) c19 rfl Try.heard Try.enter c21 c22 (by kernel_rfl) (by kernel_rfl) (by kernel_rfl) (by kernel_rfl)
theorem named : Try.prog.funcNamed Rows.namesRow.func = some 3 := by kernel_rfl

set_option maxRecDepth 100000 in
theorem lifted (os : Os) (started : os.Started) (H : Type) (enc : TypeId × Value → H) :
    ReturnsInHanded {} Try.checked os 3 .any (Rows.namesSpec.pre6 enc Try.prog Try.f3 Rows.namesRow.domain false) (Rows.namesSpec.post enc Try.prog Try.f3 false true false false) := by
  refine returnsInHanded_of_change (C := Try.checked) Try.own started (by kernel_rfl) Try.func3
    (ChangeSpec.witness6 (enc := enc) (C := Try.checked) false ⟨#[], #[], []⟩ 8 (by kernel_rfl) (by kernel_rfl) (by kernel_rfl) (by kernel_rfl)) ?_
  intro W base args ds gs before hval0 hW hcnd _
  have hval : ∀ (j : Nat) t v, Try.f3.params[j]? = some t → args[j]? = some v → Value.okWide Try.prog W .any base t v := hval0
  have hW' := hW
  obtain ⟨p, q, hA0, hV, rfl, hfz, hnd⟩ := hW
  have hA : DataW.TrodAll enc Try.prog W 0 (fun _ => true) true Try.f3.params.toList args.toList ds p := hA0
  rw [Try.params3] at hA hval
  obtain ⟨hargs, rfl, rfl⟩ := trodAll_nil hA
  obtain rfl : args = #[] := by cases args; simp_all
  obtain ⟨rfl, rfl⟩ := trodVars_none hV
  exact law_step (X := Try.X) (Names_calls ) (by simp [RelL, Rel]) (fun _ => rfl) hW' rfl Try.laid Try.rowed Try.full (by kernel_rfl) (by kernel_rfl) Try.underlying4 rfl

/-- The row. -/
theorem over : Rows.namesRow.holds Try.pinned (OpenSpec.ofChange Rows.namesSpec) :=
  OpenClaim.holds_of_wide 3 Try.f3 rfl rfl rfl rfl rfl rfl rfl ⟨rfl, rfl, rfl, rfl, rfl⟩ rfl rfl rfl rfl rfl named Try.func3 closed
    (of_decide_eq_true (by kernel_rfl)) (by unfold Func.isWrapper; first | (rw [if_pos (by decide +kernel)]; kernel_rfl) | (rw [if_neg (by decide +kernel)]; exact ⟨rfl, rfl⟩))
    (fun os started H enc _ => lifted os started H enc)

theorem proved : Rows.NamesSaid := over
#print axioms proved
end Go.Proofs.Ytcinhjfonmjneaa.names
