/- A part of the proof. -/
import Derived.Test.YtpnpbmbdkinajaaGreatDoorLibDG
import Derived.OpenShut
import Derived.ProofKit
import Derived.Test.YtpnpbmbdkinajaaGreatDoorRows
set_option linter.all false
set_option maxHeartbeats 0
set_option maxRecDepth 100000
namespace Go.Proofs
open Go.cE
def Tryz.Zh:Ω:=[104,97,114,110,101,115,115]
def Tryz.Zi:Ω:=[48,48,102,97,98,99,98,53,102,55,52,97,99,57,101,55,56,98,102,50,100,102,51,98,54,101,55,99,48,56,53,52,49,55,98,57,97,98,55,57,57,56,54,53,54,56,99,50,52,100,49,55,101,48,56,53,98,50,97,102,57,48,98,100]
def Tryz.ML:Ω:=[99,117,116]
def Tryz.afT:Ω:=[97,116,32,116,111,117,99,104,115,116,111,110,101,47,116,111,117,99,104,115,116,111,110,101,116,111,112,46,84,111,112,80,97,114,116,115,32,116,111,117,99,104,115,116,111,110,101,47,116,111,117,99,104,115,116,111,110,101,116,111,112,46,84,111,112,84,105,99,107,101,116,115,32,116,111,117,99,104,115,116,111,110,101,47,116,111,117,99,104,115,116,111,110,101,116,111,112,46,84,111,112,72,101,108,100]
def Tryz.order:Tryz.prog.initOrder=String.ofList (chs Tryz.Zh++Zj::(chs Tryz.Zi++Zj::(chs Tryz.ML++Zj::chs Tryz.afT))):=by kernel_rfl
def Tryz.ahR:∀T,behindMainWord (chs Tryz.Zh::chs Tryz.Zi::T)=T:=λT=>by kernel_rfl
def Tryz.words:∃T,behindMainWord (wordsSigns Tryz.prog.initOrder.toList)=chs Tryz.ML::T:=Zk Tryz.order (by kernel_rfl) (by kernel_rfl) (by kernel_rfl) Tryz.ahR
def Tryz.Zl:(liftWords.all λo=>chs Tryz.ML != o.toList):=by kernel_rfl
def Tryz.Zm : (chs Tryz.ML == "cut".toList) = true := by kernel_rfl
def Tryz.make:Tryz.prog.make=some .cut:=acU Tryz.words (by kernel_rfl) Tryz.Zm
def Tryz.final:Tryz.prog.liftsFinal=false:=Zn Tryz.words Tryz.Zl Tryz.Zm (by kernel_rfl)
def Tryz.akR:Tryz.prog.laysLater=false:=by kernel_rfl
def Tryz.refl:Tryz.prog.bearsReflect=false:=by kernel_rfl
def Tryz.door:Tryz.prog.doorFits []:=by kernel_rfl
def Tryz.enter:Tryz.prog.mayEnter:=Zo Tryz.words Tryz.Zl Tryz.Zm Tryz.akR Tryz.refl Tryz.door
def Tryz.laid:laidOutB Tryz.prog:=by kernel_rfl
def Tryz.K9:mapsRowed Tryz.prog:=by kernel_rfl
def Tryz.full:∀t e,t<Tryz.prog.types.size->Tryz.prog.underlying t=some (.slice e)->0<Tryz.prog.cellsOf e:=slices_full_of _ (by kernel_rfl)
def Tryz.own:ownKnob Tryz.prog.godebug=none:=by kernel_rfl
def Tryz.stops:(Tryz.prog.stops==[]):=by kernel_rfl
def Tryz.knobs:(Tryz.prog.stopKnobs==[]):=by kernel_rfl
def Tryz.keys:Tryz.prog.plainKeys:=by kernel_rfl
def Tryz.heard:Tryz.prog.stopsHeard:=by kernel_rfl
end Go.Proofs
