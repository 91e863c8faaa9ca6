/- The closed facts that every row of the seat asks of the program. -/
import Derived.Test.YtdnpapgijbhofaaGreatDoorRows
import Derived.Test.YtdnpapgijbhofaaGreatDoorCtxRt
import Derived.Test.YtdnpapgijbhofaaGreatDoorLibDRt
import Derived.ProofKit
import Derived.OpenShut
set_option linter.defProp false
namespace Go.Proofs
open Go.cB
def Tryz.Rq:L Nat:=[104,97,114,110,101,115,115]
def Tryz.Rr:L Nat:=[56,54,55,97,99,48,52,49,53,57,55,48,53,48,98,54,49,48,53,55,48,99,51,50,97,53,100,97,54,55,56,57,100,56,56,56,97,48,101,98,51,49,98,101,52,99,52,52,54,52,56,100,48,55,56,52,54,99,56,98,99,55,55,54]
def Tryz.GI:L Nat:=[99,117,116]
def Tryz.Xd:L Nat:=[97,116,32,116,111,117,99,104,115,116,111,110,101,47,116,111,117,99,104,115,116,111,110,101,116,111,112,46,84,111,112,71,97,115,32,116,111,117,99,104,115,116,111,110,101,47,116,111,117,99,104,115,116,111,110,101,116,111,112,46,84,111,112,83,112,101,110,116,32,116,111,117,99,104,115,116,111,110,101,47,116,111,117,99,104,115,116,111,110,101,116,111,112,46,84,111,112,77,97,100,101,32,116,111,117,99,104,115,116,111,110,101,47,116,111,117,99,104,115,116,111,110,101,116,111,112,46,84,111,112,71,111,111,100,32,116,111,117,99,104,115,116,111,110,101,47,116,111,117,99,104,115,116,111,110,101,116,111,112,46,84,111,112,67,111,117,110,116,101,114,115,32,116,111,117,99,104,115,116,111,110,101,47,116,111,117,99,104,115,116,111,110,101,116,111,112,46,84,111,112,87,104,111,108,101,32,116,111,117,99,104,115,116,111,110,101,47,116,111,117,99,104,115,116,111,110,101,116,111,112,46,84,111,112,82,117,110,115,32,116,111,117,99,104,115,116,111,110,101,47,116,111,117,99,104,115,116,111,110,101,116,111,112,46,84,111,112,80,97,114,116,115,32,116,111,117,99,104,115,116,111,110,101,47,116,111,117,99,104,115,116,111,110,101,107,101,101,112,46,82,117,110,83,111,117,110,100,32,116,111,117,99,104,115,116,111,110,101,47,116,111,117,99,104,115,116,111,110,101,107,101,101,112,46,82,117,110,84,105,99,107,101,116,115,32,116,111,117,99,104,115,116,111,110,101,47,116,111,117,99,104,115,116,111,110,101,116,111,112,46,84,111,112,84,105,99,107,101,116,115,32,116,111,117,99,104,115,116,111,110,101,47,116,111,117,99,104,115,116,111,110,101,116,111,112,46,84,111,112,72,101,108,100]
def Tryz.order:Tryz.prog.initOrder=String.ofList (UX Tryz.Rq++Rt::(UX Tryz.Rr++Rt::(UX Tryz.GI++Rt::UX Tryz.Xd))):=by kernel_rfl
def Tryz.YY:∀T,behindMainWord (UX Tryz.Rq::UX Tryz.Rr::T)=T:=λT=>by kernel_rfl
def Tryz.words:∃T,behindMainWord (wordsSigns Tryz.prog.initOrder.toList)=UX Tryz.GI::T:=Ru Tryz.order (by kernel_rfl) (by kernel_rfl) (by kernel_rfl) Tryz.YY
def Tryz.Rv:(liftWords.all λo=>UX Tryz.GI != o.toList)=true:=by kernel_rfl
def Tryz.Rw : (UX Tryz.GI == "cut".toList) = true := by kernel_rfl
def Tryz.make:Tryz.prog.make=some .cut:=UY Tryz.words (by kernel_rfl) Tryz.Rw
def Tryz.final:Tryz.prog.liftsFinal=false:=Rx Tryz.words Tryz.Rv Tryz.Rw (by kernel_rfl)
def Tryz.abj:Tryz.prog.laysLater=false:=by kernel_rfl
def Tryz.refl:Tryz.prog.bearsReflect=false:=by kernel_rfl
def Tryz.door:Tryz.prog.doorFits []=true:=by kernel_rfl
def Tryz.enter:Tryz.prog.mayEnter=true:=Ry Tryz.words Tryz.Rv Tryz.Rw Tryz.abj Tryz.refl Tryz.door
def Tryz.laid:laidOutB Tryz.prog=true:=by kernel_rfl
def Tryz.V8:mapsRowed Tryz.prog=true:=by kernel_rfl
def Tryz.full:∀t e,t<Tryz.prog.types.size->Tryz.prog.underlying t=some (.slice e)->0<Tryz.prog.cellsOf e:=slices_full_of _ (by kernel_rfl)
def Tryz.own:ownKnob Tryz.prog.godebug=none:=by kernel_rfl
def Tryz.stops:(Tryz.prog.stops==[])=true:=by kernel_rfl
def Tryz.knobs:(Tryz.prog.stopKnobs==[])=true:=by kernel_rfl
def Tryz.keys:Tryz.prog.plainKeys=true:=by kernel_rfl
def Tryz.heard:Tryz.prog.stopsHeard=true:=by kernel_rfl
end Go.Proofs
