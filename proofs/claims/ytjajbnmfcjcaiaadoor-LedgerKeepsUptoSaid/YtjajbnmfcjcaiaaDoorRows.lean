/-
  NARROWER THAN 'FOR EVERY INPUT', by the rows' own cells (each row's printed sentence says how): CheckParts: loops, calm · CheckFrame: loops, calm · CheckGood: loops · LedgerKeeps: loops.
  DERIVED. THE GIVEN ROWS OF THIS SEAT. 4 by the template 'for every input the law returns true; each argument reads behind the call as it read before'; 0 by the template 'total and deterministic' (their statements: YtjajbnmfcjcaiaaDoorTotals.lean).
  GIVEN WITH THE SEED: the statements are not yours to turn. If you find one false, say at which input.
  Laid BY PROGRAM, IN A SANDBOX (cutbox-rows.mjs): the forced cells as the released guide's own fill.sh prints them over the translation 36bcf6800804a78d… (all of the seat's roots in one cut). By AI agents, Wed Nov 11 2026. No macro, syntax, notation, axiom, sorry.
-/
import Derived.Test.YtjajbnmfcjcaiaaDoorChecked
import GoSem.Claim
import GoSem.ClaimJoined
import GoSem.ClaimMapViews
import Derived.JoinedTies
import Derived.KernelRfl
namespace Go.Proofs.YtjajbnmfcjcaiaaDoor
/- THE CELL 'sum', in the pinned program and in every row, IS THE sha256 OF THE DUMP (.gsa) THAT YtjajbnmfcjcaiaaDoorProg.lean LOADS. Nothing in Lean hashes anything: it is a label: what it is worth is what the hold of that sum in a sandbox is worth. -/
noncomputable def Tryd.pinned : Pinned := { name := "ytjajbnmfcjcaiaadoor", sum := "36bcf6800804a78d4c3516cb6b1e873b4af72b7a242d831142cedea93d1d13f3", checked := Tryd.checked }
namespace Rows
def none {H : Type} : Left H := { results := [], args := [] }

/-- 'touchstonekeep.CheckParts': WHATEVER THE INPUT: true; the input reads as it did. -/
def checkPartsSpec : ChangeSpec := { name := "checkParts", fn := fun _ => fun
  | [d1, d2, d3] => { results := [.lit (.bool true)], args := [d1, d2, d3] }
  | _ => none }
def checkPartsRow : OpenClaim := { program := "ytjajbnmfcjcaiaadoor", sum := "36bcf6800804a78d4c3516cb6b1e873b4af72b7a242d831142cedea93d1d13f3", func := "touchstone/touchstonekeep.CheckParts", spec := "checkParts", inPlace := ["slices.overlaps[touchstone/api.Type]", "internal/bytealg.abigen_runtime_cmpstring"], unfollowed := true, recurses := true, named := ["touchstone/check.bad"], loops := true, apart := false, calm := true, outside := [.timePasses] }
def CheckPartsSaid : Prop := checkPartsRow.holds Tryd.pinned (OpenSpec.ofChange checkPartsSpec)

/-- ITS FALSE NEIGHBOUR: 'it returns false'. Refute it at one input. -/
def checkPartsWrong : ChangeSpec := { name := "checkParts", fn := fun _ => fun
  | [d1, d2, d3] => { results := [.lit (.bool false)], args := [d1, d2, d3] }
  | _ => none }
def CheckPartsWrongFalsely : Prop := checkPartsRow.holds Tryd.pinned (OpenSpec.ofChange checkPartsWrong)

/-- 'touchstonekeep.CheckFrame': WHATEVER THE INPUT: true; the input reads as it did. -/
def checkFrameSpec : ChangeSpec := { name := "checkFrame", fn := fun _ => fun
  | [d1, d2, d3] => { results := [.lit (.bool true)], args := [d1, d2, d3] }
  | _ => none }
def checkFrameRow : OpenClaim := { program := "ytjajbnmfcjcaiaadoor", sum := "36bcf6800804a78d4c3516cb6b1e873b4af72b7a242d831142cedea93d1d13f3", func := "touchstone/touchstonekeep.CheckFrame", spec := "checkFrame", inPlace := ["slices.overlaps[touchstone/api.Type]", "internal/bytealg.abigen_runtime_cmpstring"], unfollowed := true, recurses := true, named := ["touchstone/check.bad"], loops := true, apart := false, calm := true, outside := [.timePasses] }
def CheckFrameSaid : Prop := checkFrameRow.holds Tryd.pinned (OpenSpec.ofChange checkFrameSpec)

/-- ITS FALSE NEIGHBOUR: 'it returns false'. Refute it at one input. -/
def checkFrameWrong : ChangeSpec := { name := "checkFrame", fn := fun _ => fun
  | [d1, d2, d3] => { results := [.lit (.bool false)], args := [d1, d2, d3] }
  | _ => none }
def CheckFrameWrongFalsely : Prop := checkFrameRow.holds Tryd.pinned (OpenSpec.ofChange checkFrameWrong)

/-- 'touchstonekeep.CheckGood': WHATEVER THE INPUT: true; the input reads as it did. -/
def checkGoodSpec : ChangeSpec := { name := "checkGood", fn := fun _ => fun
  | [d1, d2] => { results := [.lit (.bool true)], args := [d1, d2] }
  | _ => none }
def checkGoodRow : OpenClaim := { program := "ytjajbnmfcjcaiaadoor", sum := "36bcf6800804a78d4c3516cb6b1e873b4af72b7a242d831142cedea93d1d13f3", func := "touchstone/touchstonekeep.CheckGood", spec := "checkGood", inPlace := ["slices.overlaps[touchstone/api.Type]", "internal/bytealg.abigen_runtime_cmpstring"], unfollowed := true, recurses := true, named := ["touchstone/check.bad"], loops := true, apart := false }
def CheckGoodSaid : Prop := checkGoodRow.holds Tryd.pinned (OpenSpec.ofChange checkGoodSpec)

/-- ITS FALSE NEIGHBOUR: 'it returns false'. Refute it at one input. -/
def checkGoodWrong : ChangeSpec := { name := "checkGood", fn := fun _ => fun
  | [d1, d2] => { results := [.lit (.bool false)], args := [d1, d2] }
  | _ => none }
def CheckGoodWrongFalsely : Prop := checkGoodRow.holds Tryd.pinned (OpenSpec.ofChange checkGoodWrong)

/-- 'touchstonekeep.LedgerKeeps': WHATEVER THE INPUT: true; the input reads as it did. -/
def ledgerKeepsSpec : ChangeSpec := { name := "ledgerKeeps", fn := fun _ => fun
  | [d1, d2, d3, d4] => { results := [.lit (.bool true)], args := [d1, d2, d3, d4] }
  | _ => none }
def ledgerKeepsRow : OpenClaim := { program := "ytjajbnmfcjcaiaadoor", sum := "36bcf6800804a78d4c3516cb6b1e873b4af72b7a242d831142cedea93d1d13f3", func := "touchstone/touchstonekeep.LedgerKeeps", spec := "ledgerKeeps", inPlace := ["slices.overlaps[touchstone/api.Type]", "internal/bytealg.abigen_runtime_cmpstring"], unfollowed := true, recurses := true, named := ["touchstone/check.bad"], loops := true, apart := false }
def LedgerKeepsSaid : Prop := ledgerKeepsRow.holds Tryd.pinned (OpenSpec.ofChange ledgerKeepsSpec)

/-- ITS FALSE NEIGHBOUR: 'it returns false'. Refute it at one input. -/
def ledgerKeepsWrong : ChangeSpec := { name := "ledgerKeeps", fn := fun _ => fun
  | [d1, d2, d3, d4] => { results := [.lit (.bool false)], args := [d1, d2, d3, d4] }
  | _ => none }
def LedgerKeepsWrongFalsely : Prop := ledgerKeepsRow.holds Tryd.pinned (OpenSpec.ofChange ledgerKeepsWrong)

/- THE SECOND FORM. 'bulk': how many values and letters a reading holds, each counted each time it is reached (what is shared counts as often as it is met; a slice's spare places count too). A statement '..UptoSaid' is the law's where the arguments, and the package variables that the reading takes, are together of bulk at most 1048576: NARROWER than '..Said'. Prove '..Said' where nothing that the law and all that it calls make is longer than what came in: it says more and counts as full. Else prove '..UptoSaid'. A law counts once. -/
mutual
def uptoBulk {H : Type} : DataW H → Nat
  | .lit (.string bytes) => bytes.length + 1
  | .lit _ => 1
  | .nil => 1
  | .ptr d => uptoBulk d + 1
  | .slice elems spare => uptoBulkAll elems + uptoBulkAll spare + 1
  | .agg parts => uptoBulkAll parts + 1
  | .iface _ d => uptoBulk d + 1
  | .map entries => uptoBulkEntries entries + 1
  | .held _ => 1
def uptoBulkAll {H : Type} : List (DataW H) → Nat
  | [] => 0
  | d :: r => uptoBulk d + uptoBulkAll r
def uptoBulkEntries {H : Type} : List (Lit × DataW H) → Nat
  | [] => 0
  | x :: r => uptoBulkEntry x + uptoBulkEntries r
def uptoBulkEntry {H : Type} : Lit × DataW H → Nat
  | (.string bytes, d) => bytes.length + uptoBulk d + 1
  | (_, d) => uptoBulk d + 1
 end
def uptoSmall : (H : Type) → List (DataW H) → Bool := fun _ ds => decide (uptoBulkAll ds ≤ 1048576)
def OpenSpec.upto (s : _root_.Go.ChangeSpec) : _root_.Go.OpenSpec := { _root_.Go.OpenSpec.ofChange s with cond := some uptoSmall }

/-- 'touchstonekeep.CheckGood', WHERE WHAT IT READS IS OF BULK AT MOST 1048576: true; the input reads as it did. -/
def checkGoodUptoRow : OpenClaim := { program := "ytjajbnmfcjcaiaadoor", sum := "36bcf6800804a78d4c3516cb6b1e873b4af72b7a242d831142cedea93d1d13f3", func := "touchstone/touchstonekeep.CheckGood", spec := "checkGood", inPlace := ["slices.overlaps[touchstone/api.Type]", "internal/bytealg.abigen_runtime_cmpstring"], unfollowed := true, recurses := true, named := ["touchstone/check.bad"], loops := true, apart := false, narrowed := true }
def CheckGoodUptoSaid : Prop := checkGoodUptoRow.holds Tryd.pinned (OpenSpec.upto checkGoodSpec)

/-- 'touchstonekeep.LedgerKeeps', WHERE WHAT IT READS IS OF BULK AT MOST 1048576: true; the input reads as it did. -/
def ledgerKeepsUptoRow : OpenClaim := { program := "ytjajbnmfcjcaiaadoor", sum := "36bcf6800804a78d4c3516cb6b1e873b4af72b7a242d831142cedea93d1d13f3", func := "touchstone/touchstonekeep.LedgerKeeps", spec := "ledgerKeeps", inPlace := ["slices.overlaps[touchstone/api.Type]", "internal/bytealg.abigen_runtime_cmpstring"], unfollowed := true, recurses := true, named := ["touchstone/check.bad"], loops := true, apart := false, narrowed := true }
def LedgerKeepsUptoSaid : Prop := ledgerKeepsUptoRow.holds Tryd.pinned (OpenSpec.upto ledgerKeepsSpec)

end Rows
end Go.Proofs.YtjajbnmfcjcaiaaDoor
