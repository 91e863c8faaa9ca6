/- The closed facts that every row of the seat asks of the program. -/
import Derived.Test.YtlohbilpimjmmaaGreatDoorRows
import Derived.Test.YtlohbilpimjmmaaGreatDoorCtx
import Derived.Test.YtlohbilpimjmmaaGreatDoorLibD
import Derived.ProofKit
import Derived.OpenShut
namespace Go.Proofs
open Go.cu
def Tryz.RN:List Nat:=[104,97,114,110,101,115,115]
def Tryz.RO:List Nat:=[99,55,52,53,101,97,52,98,101,102,49,50,55,49,99,48,50,53,98,54,99,98,49,97,98,49,97,57,52,98,53,55,97,102,50,98,99,54,98,97,48,100,102,51,102,101,48,55,98,52,102,101,100,49,102,54,55,52,100,56,50,51,48,54]
def Tryz.GY:List Nat:=[99,117,116]
def Tryz.W7:List Nat:=[97,116,32,116,111,117,99,104,115,116,111,110,101,47,116,111,117,99,104,115,116,111,110,101,107,101,101,112,46,82,117,110,83,111,117,110,100,32,116,111,117,99,104,115,116,111,110,101,47,116,111,117,99,104,115,116,111,110,101,107,101,101,112,46,82,117,110,77,111,114,101,32,116,111,117,99,104,115,116,111,110,101,47,116,111,117,99,104,115,116,111,110,101,107,101,101,112,46,82,117,110,70,114,97,109,101,32,116,111,117,99,104,115,116,111,110,101,47,116,111,117,99,104,115,116,111,110,101,107,101,101,112,46,82,117,110,80,97,114,116,115]
theorem Tryz.order:Tryz.prog.initOrder=String.ofList (UI Tryz.RN++RP::(UI Tryz.RO++RP::(UI Tryz.GY++RP::UI Tryz.W7))):=by kernel_rfl
theorem Tryz.Y5:∀T,behindMainWord (UI Tryz.RN::UI Tryz.RO::T)=T:=fun T=>by kernel_rfl
theorem Tryz.words:∃T,behindMainWord (wordsSigns Tryz.prog.initOrder.toList)=UI Tryz.GY::T:=RQ Tryz.order (by kernel_rfl) (by kernel_rfl) (by kernel_rfl) Tryz.Y5
theorem Tryz.RR:(liftWords.all fun o=>UI Tryz.GY != o.toList)=true:=by kernel_rfl
theorem Tryz.RS : (UI Tryz.GY == "cut".toList) = true := by kernel_rfl
theorem Tryz.make:Tryz.prog.make=some .cut:=UJ Tryz.words (by kernel_rfl) Tryz.RS
theorem Tryz.final:Tryz.prog.liftsFinal=false:=RT Tryz.words Tryz.RR Tryz.RS (by kernel_rfl)
theorem Tryz.abH:Tryz.prog.laysLater=false:=by kernel_rfl
theorem Tryz.refl:Tryz.prog.bearsReflect=false:=by kernel_rfl
theorem Tryz.door:Tryz.prog.doorFits []=true:=by kernel_rfl
theorem Tryz.enter:Tryz.prog.mayEnter=true:=RU Tryz.words Tryz.RR Tryz.RS Tryz.abH Tryz.refl Tryz.door
theorem Tryz.laid:laidOutB Tryz.prog=true:=by kernel_rfl
theorem Tryz.V3:mapsRowed Tryz.prog=true:=by kernel_rfl
theorem Tryz.full:∀t e,t<Tryz.prog.types.size->Tryz.prog.underlying t=some (.slice e)->0<Tryz.prog.cellsOf e:=slices_full_of _ (by kernel_rfl)
theorem Tryz.own:ownKnob Tryz.prog.godebug=none:=by kernel_rfl
theorem Tryz.stops:(Tryz.prog.stops==[])=true:=by kernel_rfl
theorem Tryz.knobs:(Tryz.prog.stopKnobs==[])=true:=by kernel_rfl
theorem Tryz.keys:Tryz.prog.plainKeys=true:=by kernel_rfl
theorem Tryz.heard:Tryz.prog.stopsHeard=true:=by kernel_rfl
end Go.Proofs
