/- The closed facts that every row of the seat asks of the program. -/
import Derived.Test.YteanleefnjknoaaGreatDoorRows
import Derived.Test.YteanleefnjknoaaGreatDoorCtx
import Derived.Test.YteanleefnjknoaaGreatDoorLibD
import Derived.ProofKit
import Derived.OpenShut
set_option linter.defProp false
namespace Go.Proofs
open Go.cK
def Tryz.VP:L Nat:=[104,97,114,110,101,115,115]
def Tryz.VQ:L Nat:=[55,56,99,49,51,52,57,100,50,102,100,101,51,98,99,55,98,98,102,97,57,50,57,55,57,56,98,54,102,56,51,48,49,57,97,54,56,102,57,53,52,49,101,48,57,57,53,53,99,50,48,48,56,101,48,100,53,97,97,98,56,56,48,49]
def Tryz.JW:L Nat:=[99,117,116]
def Tryz.abc:L Nat:=[97,116,32,116,111,117,99,104,115,116,111,110,101,47,116,111,117,99,104,115,116,111,110,101,116,111,112,46,84,111,112,77,111,110,101,121,32,116,111,117,99,104,115,116,111,110,101,47,116,111,117,99,104,115,116,111,110,101,107,101,101,112,46,82,117,110,83,111,117,110,100,32,116,111,117,99,104,115,116,111,110,101,47,116,111,117,99,104,115,116,111,110,101,107,101,101,112,46,82,117,110,84,105,99,107,101,116,115]
def Tryz.order:Tryz.prog.initOrder=String.ofList (YT Tryz.VP++VR::(YT Tryz.VQ++VR::(YT Tryz.JW++VR::YT Tryz.abc))):=by kernel_rfl
def Tryz.ada:∀T,behindMainWord (YT Tryz.VP::YT Tryz.VQ::T)=T:=λT=>by kernel_rfl
def Tryz.words:∃T,behindMainWord (wordsSigns Tryz.prog.initOrder.toList)=YT Tryz.JW::T:=VS Tryz.order (by kernel_rfl) (by kernel_rfl) (by kernel_rfl) Tryz.ada
def Tryz.VT:(liftWords.all λo=>YT Tryz.JW != o.toList)=true:=by kernel_rfl
def Tryz.VU : (YT Tryz.JW == "cut".toList) = true := by kernel_rfl
def Tryz.make:Tryz.prog.make=some .cut:=YU Tryz.words (by kernel_rfl) Tryz.VU
def Tryz.final:Tryz.prog.liftsFinal=false:=VV Tryz.words Tryz.VT Tryz.VU (by kernel_rfl)
def Tryz.afM:Tryz.prog.laysLater=false:=by kernel_rfl
def Tryz.refl:Tryz.prog.bearsReflect=false:=by kernel_rfl
def Tryz.door:Tryz.prog.doorFits []=true:=by kernel_rfl
def Tryz.enter:Tryz.prog.mayEnter=true:=VW Tryz.words Tryz.VT Tryz.VU Tryz.afM Tryz.refl Tryz.door
def Tryz.laid:laidOutB Tryz.prog=true:=by kernel_rfl
def Tryz.Z3:mapsRowed Tryz.prog=true:=by kernel_rfl
def Tryz.full:∀t e,t<Tryz.prog.types.size->Tryz.prog.underlying t=some (.slice e)->0<Tryz.prog.cellsOf e:=slices_full_of _ (by kernel_rfl)
def Tryz.own:ownKnob Tryz.prog.godebug=none:=by kernel_rfl
def Tryz.stops:(Tryz.prog.stops==[])=true:=by kernel_rfl
def Tryz.knobs:(Tryz.prog.stopKnobs==[])=true:=by kernel_rfl
def Tryz.keys:Tryz.prog.plainKeys=true:=by kernel_rfl
def Tryz.heard:Tryz.prog.stopsHeard=true:=by kernel_rfl
end Go.Proofs
