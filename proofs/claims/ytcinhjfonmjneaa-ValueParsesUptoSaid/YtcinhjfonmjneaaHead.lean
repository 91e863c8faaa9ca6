/- The closed facts that every row of the seat asks of the program. -/
import Derived.Test.YtcinhjfonmjneaaRows
import Derived.Test.YtcinhjfonmjneaaCtx
import Derived.Test.YtcinhjfonmjneaaLibD
import Derived.ProofKit
import Derived.OpenShut
namespace Go.Proofs
open Go.Abs
def Try.codes1 : List Nat := [104, 97, 114, 110, 101, 115, 115]
def Try.codes2 : List Nat := [102, 56, 54, 51, 48, 49, 57, 50, 99, 56, 100, 102, 102, 48, 49, 49, 97, 97, 56, 48, 102, 97, 54, 50, 98, 100, 102, 57, 99, 51, 49, 98, 48, 54, 99, 49, 53, 57, 49, 102, 99, 54, 100, 53, 101, 100, 100, 52, 57, 48, 100, 49, 51, 100, 56, 51, 51, 48, 52, 102, 52, 53, 48, 53]
def Try.codes3 : List Nat := [99, 117, 116]
def Try.codes4 : List Nat := [97, 116, 32, 116, 111, 117, 99, 104, 115, 116, 111, 110, 101, 47, 116, 111, 117, 99, 104, 115, 116, 111, 110, 101, 108, 97, 119, 46, 78, 97, 109, 101, 115, 32, 116, 111, 117, 99, 104, 115, 116, 111, 110, 101, 47, 116, 111, 117, 99, 104, 115, 116, 111, 110, 101, 107, 101, 101, 112, 46, 78, 117, 109, 68, 105, 118, 105, 100, 101, 115, 32, 116, 111, 117, 99, 104, 115, 116, 111, 110, 101, 47, 116, 111, 117, 99, 104, 115, 116, 111, 110, 101, 108, 97, 119, 46, 75, 105, 110, 100, 80, 97, 114, 115, 101, 115, 32, 116, 111, 117, 99, 104, 115, 116, 111, 110, 101, 47, 116, 111, 117, 99, 104, 115, 116, 111, 110, 101, 108, 97, 119, 46, 78, 117, 109, 82, 101, 99, 107, 111, 110, 115, 32, 116, 111, 117, 99, 104, 115, 116, 111, 110, 101, 47, 116, 111, 117, 99, 104, 115, 116, 111, 110, 101, 108, 97, 119, 46, 84, 114, 101, 101, 69, 110, 99, 111, 100, 101, 115, 32, 116, 111, 117, 99, 104, 115, 116, 111, 110, 101, 47, 116, 111, 117, 99, 104, 115, 116, 111, 110, 101, 107, 101, 101, 112, 46, 78, 117, 109, 76, 97, 119, 115, 32, 116, 111, 117, 99, 104, 115, 116, 111, 110, 101, 47, 116, 111, 117, 99, 104, 115, 116, 111, 110, 101, 107, 101, 101, 112, 46, 78, 117, 109, 66, 111, 117, 110, 100, 115, 32, 116, 111, 117, 99, 104, 115, 116, 111, 110, 101, 47, 116, 111, 117, 99, 104, 115, 116, 111, 110, 101, 107, 101, 101, 112, 46, 75, 105, 110, 100, 79, 114, 100, 101, 114, 32, 116, 111, 117, 99, 104, 115, 116, 111, 110, 101, 47, 116, 111, 117, 99, 104, 115, 116, 111, 110, 101, 108, 97, 119, 46, 75, 105, 110, 100, 84, 101, 108, 108, 115, 32, 116, 111, 117, 99, 104, 115, 116, 111, 110, 101, 47, 116, 111, 117, 99, 104, 115, 116, 111, 110, 101, 107, 101, 101, 112, 46, 75, 105, 110, 100, 66, 97, 99, 107, 32, 116, 111, 117, 99, 104, 115, 116, 111, 110, 101, 47, 116, 111, 117, 99, 104, 115, 116, 111, 110, 101, 108, 97, 119, 46, 84, 114, 101, 101, 68, 101, 99, 111, 100, 101, 115, 32, 116, 111, 117, 99, 104, 115, 116, 111, 110, 101, 47, 116, 111, 117, 99, 104, 115, 116, 111, 110, 101, 107, 101, 101, 112, 46, 84, 114, 101, 101, 66, 97, 99, 107, 32, 116, 111, 117, 99, 104, 115, 116, 111, 110, 101, 47, 116, 111, 117, 99, 104, 115, 116, 111, 110, 101, 107, 101, 101, 112, 46, 84, 114, 101, 101, 79, 110, 108, 121, 32, 116, 111, 117, 99, 104, 115, 116, 111, 110, 101, 47, 116, 111, 117, 99, 104, 115, 116, 111, 110, 101, 107, 101, 101, 112, 46, 84, 114, 101, 101, 67, 117, 116, 32, 116, 111, 117, 99, 104, 115, 116, 111, 110, 101, 47, 116, 111, 117, 99, 104, 115, 116, 111, 110, 101, 107, 101, 101, 112, 46, 86, 97, 108, 117, 101, 79, 110, 101, 84, 121, 112, 101, 32, 116, 111, 117, 99, 104, 115, 116, 111, 110, 101, 47, 116, 111, 117, 99, 104, 115, 116, 111, 110, 101, 108, 97, 119, 46, 86, 97, 108, 117, 101, 72, 97, 115, 32, 116, 111, 117, 99, 104, 115, 116, 111, 110, 101, 47, 116, 111, 117, 99, 104, 115, 116, 111, 110, 101, 107, 101, 101, 112, 46, 86, 97, 108, 117, 101, 79, 114, 100, 101, 114, 32, 116, 111, 117, 99, 104, 115, 116, 111, 110, 101, 47, 116, 111, 117, 99, 104, 115, 116, 111, 110, 101, 108, 97, 119, 46, 86, 97, 108, 117, 101, 84, 101, 108, 108, 115, 32, 116, 111, 117, 99, 104, 115, 116, 111, 110, 101, 47, 116, 111, 117, 99, 104, 115, 116, 111, 110, 101, 108, 97, 119, 46, 86, 97, 108, 117, 101, 80, 97, 114, 115, 101, 115, 32, 116, 111, 117, 99, 104, 115, 116, 111, 110, 101, 47, 116, 111, 117, 99, 104, 115, 116, 111, 110, 101, 107, 101, 101, 112, 46, 86, 97, 108, 117, 101, 66, 97, 99, 107, 32, 116, 111, 117, 99, 104, 115, 116, 111, 110, 101, 47, 116, 111, 117, 99, 104, 115, 116, 111, 110, 101, 107, 101, 101, 112, 46, 86, 97, 108, 117, 101, 79, 110, 108, 121]

theorem Try.order : Try.prog.initOrder = String.ofList (chs Try.codes1 ++ spc :: (chs Try.codes2 ++ spc :: (chs Try.codes3 ++ spc :: chs Try.codes4))) := by kernel_rfl
theorem Try.heads : ∀ T, behindMainWord (chs Try.codes1 :: chs Try.codes2 :: T) = T := fun T => by kernel_rfl
theorem Try.words : ∃ T, behindMainWord (wordsSigns Try.prog.initOrder.toList) = chs Try.codes3 :: T := words_of Try.order (by kernel_rfl) (by kernel_rfl) (by kernel_rfl) Try.heads
theorem Try.noLift : (liftWords.all fun o => chs Try.codes3 != o.toList) = true := by kernel_rfl
theorem Try.isCut : (chs Try.codes3 == "cut".toList) = true := by kernel_rfl
theorem Try.make : Try.prog.make = some .cut := make_of Try.words (by kernel_rfl) Try.isCut
theorem Try.final : Try.prog.liftsFinal = false := final_of Try.words Try.noLift Try.isCut (by kernel_rfl)
theorem Try.lays : Try.prog.laysLater = false := by kernel_rfl
theorem Try.refl : Try.prog.bearsReflect = false := by kernel_rfl
theorem Try.door : Try.prog.doorFits [] = true := by kernel_rfl
theorem Try.enter : Try.prog.mayEnter = true := enter_of Try.words Try.noLift Try.isCut Try.lays Try.refl Try.door
theorem Try.laid : laidOutB Try.prog = true := by kernel_rfl
theorem Try.rowed : mapsRowed Try.prog = true := by kernel_rfl
theorem Try.full : ∀ t e, t < Try.prog.types.size → Try.prog.underlying t = some (.slice e) → 0 < Try.prog.cellsOf e := slices_full_of _ (by kernel_rfl)
theorem Try.own : ownKnob Try.prog.godebug = none := by kernel_rfl
theorem Try.stops : (Try.prog.stops == []) = true := by kernel_rfl
theorem Try.knobs : (Try.prog.stopKnobs == []) = true := by kernel_rfl
theorem Try.keys : Try.prog.plainKeys = true := by kernel_rfl
theorem Try.heard : Try.prog.stopsHeard = true := by kernel_rfl
end Go.Proofs
