/- What the functions In, Abs, bound, Add, Sub and Ediv of package num answer, for all numbers. -/
import Derived.Test.YtcinhjfonmjneaaData
import Derived.Test.YtcinhjfonmjneaaCtx
set_option linter.unusedVariables false
set_option linter.unusedSimpArgs false
namespace Go.Proofs
open Go.Abs

attribute [local irreducible] AK AOps QCalls

def nIn (n : Int) : Bool := decide (n ≥ -1152921504606846976) && decide (n ≤ 1152921504606846976)
def nAbs (n : Int) : Int × Int := if nIn n = true then (if n < 0 then -n else n, 0) else (0, 2)
def nBound (n : Int) : Int × Int := if nIn n = true then (n, 0) else (0, 11)
def nAdd (a b : Int) : Int × Int := if nIn a = true ∧ nIn b = true then nBound (a + b) else (0, 2)
def nSub (a b : Int) : Int × Int := if nIn a = true ∧ nIn b = true then nBound (a - b) else (0, 2)
def nMul (a b : Int) : Int × Int := if nIn a = true ∧ nIn b = true then nBound (a * b) else (0, 2)
def nEdiv (a b : Int) : Int × Int × Int := if nIn a = true ∧ nIn b = true then (if b = 0 then (0, 0, 6) else (a / b, a % b, 0)) else (0, 0, 2)

theorem nIn_iff {n : Int} : nIn n = true ↔ -1152921504606846976 ≤ n ∧ n ≤ 1152921504606846976 := by simp [nIn]

theorem In_calls (n : Int) : QCalls Try.prog Try.X 27 [.int .i64 n] (.bool (nIn n)) := by
  refine QCalls.of Try.func27 rfl (fun args w => Try.call27 args w) (Nat.le_of_ble_eq_true rfl) [(0, .c (.int .i64 n))] rfl fun β hβ => ?_; have hf := Try.func27
  repeat' (first | refine AK.runP Try.hX Try.mixed 300 rfl ?_ | refine AK.condTe rfl asm ?_ | refine AK.condFe rfl asm ?_ | (refine AK.condS rfl (fun h => ?_) (fun h => ?_) <;> first | (cases h; done) | rw [h] | skip) | refine AK.retQ Try.hX hf rfl rfl ?_ | refine AK.region Try.mixed rfl ?_ | refine AOps.done ?_ | refine AOps.runS Try.hX kn rfl ?_ | refine AOps.box kn rfl rfl rfl rfl rfl rfl ?_ | refine AOps.alloc Try.hX kn rfl rfl rfl rfl rfl rfl rfl ?_ | refine AOps.store Try.hX kn rfl rfl rfl rfl rfl rfl rfl rfl rfl rfl rfl ?_ | refine AOps.buildSlice Try.hX kn rfl rfl rfl rfl rfl rfl rfl rfl rfl rfl rfl rfl ?_ | refine AOps.append Try.hX kn rfl rfl rfl rfl rfl rfl rfl rfl rfl rfl rfl rfl rfl rfl rfl rfl rfl rfl rfl rfl rfl ?_ ?_ | refine AOps.toStr Try.hX kn rfl rfl rfl rfl rfl rfl rfl rfl rfl rfl rfl (by first | exact rfl | exact byte1 _) rfl ?_ | refine AOps.buildArr Try.hX kn rfl rfl rfl rfl rfl rfl rfl rfl ?_ | refine AOps.indexArr Try.hX kn rfl rfl rfl rfl rfl rfl rfl rfl rfl rfl rfl rfl ?_ | refine AOps.runP1 Try.hX kn rfl rfl ?_ | (refine AOps.splitT rfl rfl rfl asm (fun h => ?_) <;> (fail_if_success (cases h; done)) <;> rw [h]) | (refine AOps.splitF rfl rfl rfl asm (fun h => ?_) <;> (fail_if_success (cases h; done)) <;> rw [h]) | (refine AOps.split rfl rfl rfl (fun h => ?_) (fun h => ?_) <;> (fail_if_success (cases h; done)) <;> rw [h]) | refine AOps.drawn (by kernel_rfl) ?_)
  all_goals (simp_all [nIn]; try omega)

abbrev two (x : Int × Int) : CV := .tup [.int .i64 x.1, .int .i64 x.2]
abbrev three (x : Int × Int × Int) : CV := .tup [.int .i64 x.1, .int .i64 x.2.1, .int .i64 x.2.2]

end Go.Proofs
