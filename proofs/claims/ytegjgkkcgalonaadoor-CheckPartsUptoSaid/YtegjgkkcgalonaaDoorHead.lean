/- The closed facts that every row of the seat asks of the program. -/
import Derived.Test.YtegjgkkcgalonaaDoorRows
import Derived.Test.YtegjgkkcgalonaaDoorCtx
import Derived.Test.YtegjgkkcgalonaaDoorLibD
import Derived.ProofKit
import Derived.OpenShut
namespace Go.Proofs
open Go.Abs
def Tryd.codes1 : List Nat := [104, 97, 114, 110, 101, 115, 115]
def Tryd.codes2 : List Nat := [54, 100, 98, 100, 49, 100, 99, 48, 97, 54, 102, 97, 97, 49, 102, 55, 53, 102, 100, 51, 53, 100, 49, 48, 53, 102, 52, 52, 50, 51, 102, 57, 56, 54, 51, 56, 99, 51, 101, 98, 48, 54, 52, 100, 97, 50, 57, 52, 102, 50, 56, 99, 49, 55, 98, 56, 49, 49, 97, 100, 55, 49, 53, 56]
def Tryd.codes3 : List Nat := [99, 117, 116]
def Tryd.codes4 : List Nat := [97, 116, 32, 116, 111, 117, 99, 104, 115, 116, 111, 110, 101, 47, 116, 111, 117, 99, 104, 115, 116, 111, 110, 101, 107, 101, 101, 112, 46, 67, 104, 101, 99, 107, 80, 97, 114, 116, 115]

theorem Tryd.order : Tryd.prog.initOrder = String.ofList (chs Tryd.codes1 ++ spc :: (chs Tryd.codes2 ++ spc :: (chs Tryd.codes3 ++ spc :: chs Tryd.codes4))) := by kernel_rfl
theorem Tryd.heads : ∀ T, behindMainWord (chs Tryd.codes1 :: chs Tryd.codes2 :: T) = T := fun T => by kernel_rfl
theorem Tryd.words : ∃ T, behindMainWord (wordsSigns Tryd.prog.initOrder.toList) = chs Tryd.codes3 :: T := words_of Tryd.order (by kernel_rfl) (by kernel_rfl) (by kernel_rfl) Tryd.heads
theorem Tryd.noLift : (liftWords.all fun o => chs Tryd.codes3 != o.toList) = true := by kernel_rfl
theorem Tryd.isCut : (chs Tryd.codes3 == "cut".toList) = true := by kernel_rfl
theorem Tryd.make : Tryd.prog.make = some .cut := make_of Tryd.words (by kernel_rfl) Tryd.isCut
theorem Tryd.final : Tryd.prog.liftsFinal = false := final_of Tryd.words Tryd.noLift Tryd.isCut (by kernel_rfl)
theorem Tryd.lays : Tryd.prog.laysLater = false := by kernel_rfl
theorem Tryd.refl : Tryd.prog.bearsReflect = false := by kernel_rfl
theorem Tryd.door : Tryd.prog.doorFits [] = true := by kernel_rfl
theorem Tryd.enter : Tryd.prog.mayEnter = true := enter_of Tryd.words Tryd.noLift Tryd.isCut Tryd.lays Tryd.refl Tryd.door
theorem Tryd.laid : laidOutB Tryd.prog = true := by kernel_rfl
theorem Tryd.rowed : mapsRowed Tryd.prog = true := by kernel_rfl
theorem Tryd.full : ∀ t e, t < Tryd.prog.types.size → Tryd.prog.underlying t = some (.slice e) → 0 < Tryd.prog.cellsOf e := slices_full_of _ (by kernel_rfl)
theorem Tryd.own : ownKnob Tryd.prog.godebug = none := by kernel_rfl
theorem Tryd.stops : (Tryd.prog.stops == []) = true := by kernel_rfl
theorem Tryd.knobs : (Tryd.prog.stopKnobs == []) = true := by kernel_rfl
theorem Tryd.keys : Tryd.prog.plainKeys = true := by kernel_rfl
theorem Tryd.heard : Tryd.prog.stopsHeard = true := by kernel_rfl
end Go.Proofs
