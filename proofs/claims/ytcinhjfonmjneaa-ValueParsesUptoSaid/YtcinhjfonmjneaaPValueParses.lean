/- For every type, tree and text whose bulk is at most 1048576, Parse and Unpack of package value answer exactly what the reference says, errors too. -/
import Derived.Test.YtcinhjfonmjneaaHead
import Derived.Test.YtcinhjfonmjneaaRead
import Derived.WalkKit
import Derived.ProofKit
import Derived.OpenShut
import Derived.JoinedCond
set_option linter.unusedVariables false
set_option linter.unusedSimpArgs false
namespace Go.Proofs.Ytcinhjfonmjneaa.valueParses
open Go.ChangeShapes Go.WideShapes Go.ChangeAt Go.RowKit Go.Abs

theorem c4 : Try.f21.params.all (Try.prog.readableRec ·) = true := by kernel_rfl
theorem c10 : (Rows.valueParsesUptoRow.inPlace == Try.prog.inPlace 21) = true := by kernel_rfl
theorem c11 : (Rows.valueParsesUptoRow.unfollowed == Try.prog.unfollowed 21) = true := by kernel_rfl
theorem c12 : (Rows.valueParsesUptoRow.recurses == Try.prog.recurses 21) = true := by kernel_rfl
theorem c13 : (Rows.valueParsesUptoRow.named == Try.prog.varsNamed 21) = true := by kernel_rfl
theorem c19 : (Rows.valueParsesUptoRow.plainKeys == Try.prog.plainKeys) = true := by rw [Try.keys]; rfl
theorem c21 : (Rows.valueParsesUptoRow.lifted == Try.prog.liftsFinal) = true := by rw [Try.final]; rfl
theorem c22 : (Try.prog.make == some Rows.valueParsesUptoRow.make) = true := by rw [Try.make]; rfl
theorem closed : joinedFacts Try.prog 21 Try.f21 (Rows.OpenSpec.upto Rows.valueParsesSpec).bare Rows.valueParsesUptoRow = true :=
  joined_of (by kernel_rfl) Try.laid Try.rowed c4 (by kernel_rfl) rfl Try.stops rfl Try.knobs c10 c11 c12 c13 (by kernel_rfl) (by kernel_rfl) (by kernel_rfl) c19 rfl Try.heard Try.enter c21 c22 (by kernel_rfl) (by kernel_rfl) (by kernel_rfl) (by kernel_rfl)
theorem named : Try.prog.funcNamed Rows.valueParsesUptoRow.func = some 21 := by kernel_rfl

set_option maxRecDepth 100000 in
theorem lifted (os : Os) (started : os.Started) (H : Type) (enc : TypeId × Value → H) (F : Stop.Interp) :
    ReturnsInHanded {} Try.checked os 21 .any ((Rows.OpenSpec.upto Rows.valueParsesSpec).pre6 enc Try.prog Try.f21 Rows.valueParsesUptoRow.domain false) (((Rows.OpenSpec.upto Rows.valueParsesSpec).at F).post enc Try.prog Try.f21 false true false false) := by
  refine returnsInHanded_of_cond (C := Try.checked) (s := (Rows.OpenSpec.upto Rows.valueParsesSpec)) (k := Rows.uptoSmall) rfl Try.own started (by kernel_rfl) Try.func21
    (OpenSpec.witness (enc := enc) (C := Try.checked) (s := (Rows.OpenSpec.upto Rows.valueParsesSpec)) (k := Rows.uptoSmall) rfl false ⟨#[], #[.agg #[.int .i64 0, .slice none 0 0], .agg #[.int .i64 0, .int .i64 0, .int .i64 0, .string .empty, .slice none 0 0], .string .empty], []⟩ 8 (by kernel_rfl) (by kernel_rfl) (by kernel_rfl)
      (x := ([.agg [.lit (.int .i64 0), .nil], .agg [.lit (.int .i64 0), .lit (.int .i64 0), .lit (.int .i64 0), .lit (.string []), .nil], .lit (.string [])], [], [])) (by kernel_rfl) rfl (by kernel_rfl)) ?_
  intro W base args ds gs before hval0 hW hcnd hk _
  have hval : ∀ (j : Nat) t v, Try.f21.params[j]? = some t → args[j]? = some v → Value.okWide Try.prog W .any base t v := hval0
  have hW' := hW
  obtain ⟨p, q, hA0, hV, rfl, hfz, hnd⟩ := hW
  have hA : DataW.TrodAll enc Try.prog W 0 (fun _ => true) true Try.f21.params.toList args.toList ds p := hA0
  rw [Try.params21] at hA hval
  obtain ⟨v0, vs0, d0, ds0, p0, q0, hargs, rfl, rfl, h0, r0⟩ := trodAll_cons hA
  obtain ⟨v1, vs1, d1, ds1, p1, q1, rfl, rfl, rfl, h1, r1⟩ := trodAll_cons r0
  obtain ⟨v2, vs2, d2, ds2, p2, q2, rfl, rfl, rfl, h2, r2⟩ := trodAll_cons r1
  obtain ⟨rfl, rfl, rfl⟩ := trodAll_nil r2
  obtain rfl : args = #[v0, v1, v2] := by cases args; simp_all
  obtain ⟨rfl, rfl⟩ := trodVars_none hV
  have hsm : Rows.uptoBulkAll ([d0, d1, d2] ++ []) ≤ 1048576 := of_decide_eq_true hk
  simp only [List.append_nil, Rows.uptoBulkAll] at hsm
  obtain ⟨a0, e0, w0, b0⟩ := openTy (hval 0 35 v0 rfl rfl) h0
  obtain ⟨a1, e1, w1, b1⟩ := openNd (hval 1 32 v1 rfl rfl) h1
  obtain ⟨s2, rfl, rfl, rfl, w2⟩ := Go.ChangeMaps.open_string Try.underlying9 (hval 2 9 v2 rfl rfl) h2
  have b2 : s2.data.toList.length ≤ 1048576 := by simp only [Rows.uptoBulk] at hsm; omega
  exact law_step (X := Try.X) (ValueParses_calls a0 w0 (by omega) a1 w1 (by omega) s2.data.toList b2) (by simp only [RelL]; exact ⟨_, _, rfl, e0, ⟨_, _, rfl, e1, ⟨_, _, rfl, by simp [Rel], rfl⟩⟩⟩) (fun _ => rfl) hW' rfl Try.laid Try.rowed Try.full (by kernel_rfl) (by kernel_rfl) Try.underlying4 rfl

/-- The row. -/
theorem over : Rows.valueParsesUptoRow.holds Try.pinned (Rows.OpenSpec.upto Rows.valueParsesSpec) :=
  OpenClaim.holds_of_cond 21 Try.f21 rfl rfl rfl rfl rfl rfl rfl ⟨rfl, rfl, rfl, rfl, rfl⟩ rfl rfl rfl rfl rfl named Try.func21 closed
    (of_decide_eq_true (by kernel_rfl)) (by unfold Func.isWrapper; first | (rw [if_pos (by decide +kernel)]; kernel_rfl) | (rw [if_neg (by decide +kernel)]; exact ⟨rfl, rfl⟩))
    (fun os started H enc _ F => lifted os started H enc F)

theorem proved : Rows.ValueParsesUptoSaid := over
#print axioms proved
end Go.Proofs.Ytcinhjfonmjneaa.valueParses
