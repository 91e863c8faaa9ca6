/- The closed facts that every row of the seat asks of the program. -/
import Derived.Test.YtjajbnmfcjcaiaaDoorRows
import Derived.Test.YtjajbnmfcjcaiaaDoorCtx
import Derived.Test.YtjajbnmfcjcaiaaDoorLibD
import Derived.ProofKit
import Derived.OpenShut
namespace Go.Proofs
open Go.Abs
def Tryd.codes1 : List Nat := [104, 97, 114, 110, 101, 115, 115]
def Tryd.codes2 : List Nat := [56, 100, 49, 102, 98, 100, 49, 98, 50, 48, 101, 57, 51, 48, 48, 52, 54, 100, 97, 49, 55, 50, 54, 102, 54, 48, 56, 98, 100, 56, 102, 54, 50, 97, 98, 50, 48, 51, 51, 102, 97, 53, 98, 51, 100, 99, 52, 99, 55, 57, 49, 57, 54, 54, 101, 54, 100, 101, 55, 97, 52, 99, 50, 55]
def Tryd.codes3 : List Nat := [99, 117, 116]
def Tryd.codes4 : List Nat := [97, 116, 32, 116, 111, 117, 99, 104, 115, 116, 111, 110, 101, 47, 116, 111, 117, 99, 104, 115, 116, 111, 110, 101, 107, 101, 101, 112, 46, 67, 104, 101, 99, 107, 80, 97, 114, 116, 115, 32, 116, 111, 117, 99, 104, 115, 116, 111, 110, 101, 47, 116, 111, 117, 99, 104, 115, 116, 111, 110, 101, 107, 101, 101, 112, 46, 67, 104, 101, 99, 107, 70, 114, 97, 109, 101, 32, 116, 111, 117, 99, 104, 115, 116, 111, 110, 101, 47, 116, 111, 117, 99, 104, 115, 116, 111, 110, 101, 107, 101, 101, 112, 46, 67, 104, 101, 99, 107, 71, 111, 111, 100, 32, 116, 111, 117, 99, 104, 115, 116, 111, 110, 101, 47, 116, 111, 117, 99, 104, 115, 116, 111, 110, 101, 107, 101, 101, 112, 46, 76, 101, 100, 103, 101, 114, 75, 101, 101, 112, 115]

theorem Tryd.order : Tryd.prog.initOrder = String.ofList (chs Tryd.codes1 ++ spc :: (chs Tryd.codes2 ++ spc :: (chs Tryd.codes3 ++ spc :: chs Tryd.codes4))) := by kernel_rfl
theorem Tryd.heads : ∀ T, behindMainWord (chs Tryd.codes1 :: chs Tryd.codes2 :: T) = T := fun T => by kernel_rfl
theorem Tryd.words : ∃ T, behindMainWord (wordsSigns Tryd.prog.initOrder.toList) = chs Tryd.codes3 :: T := words_of Tryd.order (by kernel_rfl) (by kernel_rfl) (by kernel_rfl) Tryd.heads
theorem Tryd.noLift : (liftWords.all fun o => chs Tryd.codes3 != o.toList) = true := by kernel_rfl
theorem Tryd.isCut : (chs Tryd.codes3 == "cut".toList) = true := by kernel_rfl
theorem Tryd.make : Tryd.prog.make = some .cut := make_of Tryd.words (by kernel_rfl) Tryd.isCut
theorem Tryd.final : Tryd.prog.liftsFinal = false := final_of Tryd.words Tryd.noLift Tryd.isCut (by kernel_rfl)
theorem Tryd.lays : Tryd.prog.laysLater = false := by kernel_rfl
theorem Tryd.refl : Tryd.prog.bearsReflect = false := by kernel_rfl
theorem Tryd.door : Tryd.prog.doorFits [] = true := by kernel_rfl
theorem Tryd.enter : Tryd.prog.mayEnter = true := enter_of Tryd.words Tryd.noLift Tryd.isCut Tryd.lays Tryd.refl Tryd.door
theorem Tryd.laid : laidOutB Tryd.prog = true := by kernel_rfl
theorem Tryd.rowed : mapsRowed Tryd.prog = true := by kernel_rfl
theorem Tryd.full : ∀ t e, t < Tryd.prog.types.size → Tryd.prog.underlying t = some (.slice e) → 0 < Tryd.prog.cellsOf e := slices_full_of _ (by kernel_rfl)
theorem Tryd.own : ownKnob Tryd.prog.godebug = none := by kernel_rfl
theorem Tryd.stops : (Tryd.prog.stops == []) = true := by kernel_rfl
theorem Tryd.knobs : (Tryd.prog.stopKnobs == []) = true := by kernel_rfl
theorem Tryd.keys : Tryd.prog.plainKeys = true := by kernel_rfl
theorem Tryd.heard : Tryd.prog.stopsHeard = true := by kernel_rfl
end Go.Proofs
