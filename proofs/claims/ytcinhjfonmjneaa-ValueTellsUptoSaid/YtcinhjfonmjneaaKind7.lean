/- What kind.Good and kind.parse answer. -/
-- WIDE
-- OLDASM
import Derived.Test.YtcinhjfonmjneaaKind6
set_option linter.unusedVariables false
set_option linter.unusedSimpArgs false
namespace Go.Proofs
open Go.Abs
theorem nds_at {l : List Nd} {i : Nat} {x : Nd} (h : l[i]? = some x) : (encNds l)[i]? = some (encNd x) := by rw [encNds_get, h]; rfl
theorem nds_lt {l : List Nd} {i : Nat} {x : Nd} (h : l[i]? = some x) : decide (((i : Nat) : Int) < (((encNds l).length : Nat) : Int)) = true := dec_lt (by have := lt_of_get h; rw [encNds_length]; omega)
theorem nds_end {l : List Nd} {i : Nat} (h : i = l.length) : decide (((i : Nat) : Int) < (((encNds l).length : Nat) : Int)) = false := dec_ge (by rw [encNds_length]; omega)
theorem encNds_append : ∀ (a : List Nd) (b : List Nd), encNds (a ++ b) = encNds a ++ encNds b
  | [], b => rfl
  | t :: a, b => by simp [encNds, encNds_append a b]

theorem succ64' {i : Nat} (h : i < 1099511627776) : AV.c (CV.int .i64 (IntKind.i64.wrap ((i : Int) + 1))) = AV.c (CV.int .i64 ((i + 1 : Nat) : Int)) := by
  rw [w64 (by omega) (by omega)]; rfl

/-- The type that is handed back. -/
def optTy : Option Ty → Ty
  | some t => t
  | none => .mk 0 []

attribute [local irreducible] AK AOps QCalls ECalls kGood kGoods headComp tComp kParse kParses

theorem Good_calls (t : Ty) (ht : tySize t ≤ 1048577) : QCalls Try.prog Try.X 47 [encTy t] (.bool (tGood t)) := by
  have hq := good_calls t 1 0 ht (by omega) (by omega) (by omega) (by omega)
  obtain ⟨T, args⟩ := t
  refine QCalls.of Try.func47 rfl (fun args w => Try.call47 args w) (Nat.le_of_ble_eq_true rfl) [(0, .c (encTy (.mk T args)))] rfl fun β hβ => ?_; have hf := Try.func47
  repeat' (first | refine AK.runP Try.hX Try.mixed 300 rfl ?_ | refine AK.condTe rfl asmo ?_ | refine AK.condFe rfl asmo ?_ | (refine AK.condS rfl (fun h => ?_) (fun h => ?_) <;> first | (cases h; done) | rw [h] | skip) | refine AK.retQ Try.hX hf rfl rfl ?_ | refine AK.region Try.mixed rfl ?_ | refine AOps.done ?_ | refine AOps.runS Try.hX kn rfl ?_ | refine AOps.calle kn rfl rfl (hq) rfl (by (repeat' (first | exact rfl | exact trivial | refine ⟨_, _, rfl, ?_, ?_⟩ | refine ⟨_, _, _, rfl, rfl, ?_, ?_⟩)); done) rfl rfl rfl rfl rfl rfl rfl rfl rfl rfl rfl rfl rfl rfl ?_ | refine AOps.box kn rfl rfl rfl rfl rfl rfl ?_ | refine AOps.alloc Try.hX kn rfl rfl rfl rfl rfl rfl rfl ?_ | refine AOps.store Try.hX kn rfl rfl rfl rfl rfl rfl rfl rfl rfl rfl rfl ?_ | refine AOps.buildSlice Try.hX kn rfl rfl rfl rfl rfl rfl rfl rfl rfl rfl rfl rfl ?_ | refine AOps.append Try.hX kn rfl rfl rfl rfl rfl rfl rfl rfl rfl rfl rfl rfl rfl rfl rfl rfl rfl rfl rfl rfl rfl ?_ ?_ | refine AOps.toStr Try.hX kn rfl rfl rfl rfl rfl rfl rfl rfl rfl rfl rfl (by first | exact rfl | exact byte1 _) rfl ?_ | refine AOps.buildArr Try.hX kn rfl rfl rfl rfl rfl rfl rfl rfl ?_ | refine AOps.indexArr Try.hX kn rfl rfl rfl rfl rfl rfl rfl rfl rfl rfl rfl rfl ?_ | refine AOps.runP1 Try.hX kn rfl rfl ?_ | (refine AOps.splitT rfl rfl rfl asmo (fun h => ?_) <;> (fail_if_success (cases h; done)) <;> rw [h]) | (refine AOps.splitF rfl rfl rfl asmo (fun h => ?_) <;> (fail_if_success (cases h; done)) <;> rw [h]) | (refine AOps.split rfl rfl rfl (fun h => ?_) (fun h => ?_) <;> (fail_if_success (cases h; done)) <;> rw [h]) | refine AOps.drawn (by kernel_rfl) ?_)
  rfl

end Go.Proofs
