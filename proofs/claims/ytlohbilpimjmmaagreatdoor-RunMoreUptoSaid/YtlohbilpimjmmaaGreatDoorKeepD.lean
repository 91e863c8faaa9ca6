/- What the small functions of package touchstonekeep answer, and the three laws about check. -/
import Derived.Test.YtlohbilpimjmmaaGreatDoorRunS
set_option maxHeartbeats 0
set_option linter.unusedVariables false
set_option linter.unusedSimpArgs false
set_option maxRecDepth 100000
namespace Go.Proofs
open Go.cq
attribute [local irreducible] AK ai bh bt dS aZ bw dG cA fq iP many cI
theorem yN (l:List Ty) (A:l.length<=1099511627776):fG 8 [.v (.c (.sl 2 (aq l)))] [.own 2 (aq l)] []:=by
 cases l with
 | nil =>
  refine bt.tQ Tryz.func8 rfl (fun args w=>Tryz.call8 args w) (Nat.le_of_ble_eq_true rfl) [(0,.c (.sl 2 []))] [] [] [] rfl rfl fun β=>?_;have hf:=Tryz.func8
  repeat' (first|refine sK ?_|refine zr ?_ ?_|(refine uA rfl ?_ ?_<;>(try (show(_:Nat)*_<=_;dsimp only))))
  all_goals first|exact rfl|(show _<=_;decide)
 | cons x l =>
  have h1:=aQ l;simp only[aac]at A;refine bt.tQ Tryz.func8 rfl (fun args w=>Tryz.call8 args w) (Nat.le_of_ble_eq_true rfl) [(0,.c (.sl 2 (eB x::aq l)))] [] [] [] rfl rfl fun β=>?_;have hf:=Tryz.func8
  repeat' (first|refine sK ?_|refine zr ?_ ?_|(refine uA rfl ?_ ?_<;>(try (show(_:Nat)*_<=_;dsimp only))))
  all_goals first|exact rfl|(show _<=_;simp only[aac,aad];omega)
theorem L3 (l:List CV):ag 26 [.sl 5 l] (.agg [.int .i64 3,.int .i64 0,.int .i64 0,.str [],.sl 5 l]):=by
 refine qn Tryz.func26 Tryz.call26 fun β hf=>?_;exact dw
end Go.Proofs
