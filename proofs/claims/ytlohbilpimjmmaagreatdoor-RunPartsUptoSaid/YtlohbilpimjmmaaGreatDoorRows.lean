/-
  NARROWER THAN 'FOR EVERY INPUT', by the rows' own cells (each row's printed sentence says how): RunSound: loops, calm · RunMore: loops · RunFrame: loops · RunParts: loops.
  DERIVED. THE GIVEN ROWS OF THIS SEAT. 4 by the template 'for every input the law returns true; each argument reads behind the call as it read before'; 0 by the template 'total and deterministic' (their statements: YtlohbilpimjmmaaGreatDoorTotals.lean).
  GIVEN WITH THE SEED: the statements are not yours to turn. If you find one false, say at which input.
  Laid BY PROGRAM, IN A SANDBOX (cutbox-rows.mjs): the forced cells as the released guide's own fill.sh prints them over the translation d9006a911be6d27e… (all of the seat's roots in one cut). By AI agents, Wed Nov 11 2026. No macro, syntax, notation, axiom, sorry.
-/
import Derived.Test.YtlohbilpimjmmaaGreatDoorChecked
import GoSem.Claim
import GoSem.ClaimJoined
import GoSem.ClaimMapViews
import Derived.JoinedTies
import Derived.KernelRfl
namespace Go.Proofs.YtlohbilpimjmmaaGreatDoor
/- THE CELL 'sum', in the pinned program and in every row, IS THE sha256 OF THE DUMP (.gsa) THAT YtlohbilpimjmmaaGreatDoorProg.lean LOADS. Nothing in Lean hashes anything: it is a label: what it is worth is what the hold of that sum in a sandbox is worth. -/
noncomputable def Tryz.pinned : Pinned := { name := "ytlohbilpimjmmaagreatdoor", sum := "d9006a911be6d27e12866d7c5f2aa3bcb73ac67dad0fc30c61e4b408a8a86bee", checked := Tryz.checked }
namespace Rows
def none {H : Type} : Left H := { results := [], args := [] }

/-- 'touchstonekeep.RunSound': WHATEVER THE INPUT: true; the input reads as it did. -/
def runSoundSpec : ChangeSpec := { name := "runSound", fn := fun _ => fun
  | [d1, d2, d3, d4, d5] => { results := [.lit (.bool true)], args := [d1, d2, d3, d4, d5] }
  | _ => none }
def runSoundRow : OpenClaim := { program := "ytlohbilpimjmmaagreatdoor", sum := "d9006a911be6d27e12866d7c5f2aa3bcb73ac67dad0fc30c61e4b408a8a86bee", func := "touchstone/touchstonekeep.RunSound", spec := "runSound", inPlace := ["slices.overlaps[touchstone/api.Type]", "internal/bytealg.abigen_runtime_cmpstring", "slices.overlaps[touchstone/api.Value]"], unfollowed := true, recurses := true, named := ["touchstone/check.bad"], loops := true, apart := false, calm := true, outside := [.timePasses] }
def RunSoundSaid : Prop := runSoundRow.holds Tryz.pinned (OpenSpec.ofChange runSoundSpec)

/-- ITS FALSE NEIGHBOUR: 'it returns false'. Refute it at one input. -/
def runSoundWrong : ChangeSpec := { name := "runSound", fn := fun _ => fun
  | [d1, d2, d3, d4, d5] => { results := [.lit (.bool false)], args := [d1, d2, d3, d4, d5] }
  | _ => none }
def RunSoundWrongFalsely : Prop := runSoundRow.holds Tryz.pinned (OpenSpec.ofChange runSoundWrong)

/-- 'touchstonekeep.RunMore': WHATEVER THE INPUT: true; the input reads as it did. -/
def runMoreSpec : ChangeSpec := { name := "runMore", fn := fun _ => fun
  | [d1, d2, d3, d4, d5, d6] => { results := [.lit (.bool true)], args := [d1, d2, d3, d4, d5, d6] }
  | _ => none }
def runMoreRow : OpenClaim := { program := "ytlohbilpimjmmaagreatdoor", sum := "d9006a911be6d27e12866d7c5f2aa3bcb73ac67dad0fc30c61e4b408a8a86bee", func := "touchstone/touchstonekeep.RunMore", spec := "runMore", inPlace := ["slices.overlaps[touchstone/api.Type]", "internal/bytealg.abigen_runtime_cmpstring", "slices.overlaps[touchstone/api.Value]"], unfollowed := true, recurses := true, named := ["touchstone/check.bad"], loops := true, apart := false }
def RunMoreSaid : Prop := runMoreRow.holds Tryz.pinned (OpenSpec.ofChange runMoreSpec)

/-- ITS FALSE NEIGHBOUR: 'it returns false'. Refute it at one input. -/
def runMoreWrong : ChangeSpec := { name := "runMore", fn := fun _ => fun
  | [d1, d2, d3, d4, d5, d6] => { results := [.lit (.bool false)], args := [d1, d2, d3, d4, d5, d6] }
  | _ => none }
def RunMoreWrongFalsely : Prop := runMoreRow.holds Tryz.pinned (OpenSpec.ofChange runMoreWrong)

/-- 'touchstonekeep.RunFrame': WHATEVER THE INPUT: true; the input reads as it did. -/
def runFrameSpec : ChangeSpec := { name := "runFrame", fn := fun _ => fun
  | [d1, d2, d3, d4, d5, d6, d7] => { results := [.lit (.bool true)], args := [d1, d2, d3, d4, d5, d6, d7] }
  | _ => none }
def runFrameRow : OpenClaim := { program := "ytlohbilpimjmmaagreatdoor", sum := "d9006a911be6d27e12866d7c5f2aa3bcb73ac67dad0fc30c61e4b408a8a86bee", func := "touchstone/touchstonekeep.RunFrame", spec := "runFrame", inPlace := ["slices.overlaps[touchstone/api.Type]", "internal/bytealg.abigen_runtime_cmpstring", "slices.overlaps[touchstone/api.Value]"], unfollowed := true, recurses := true, named := ["touchstone/check.bad"], loops := true, apart := false }
def RunFrameSaid : Prop := runFrameRow.holds Tryz.pinned (OpenSpec.ofChange runFrameSpec)

/-- ITS FALSE NEIGHBOUR: 'it returns false'. Refute it at one input. -/
def runFrameWrong : ChangeSpec := { name := "runFrame", fn := fun _ => fun
  | [d1, d2, d3, d4, d5, d6, d7] => { results := [.lit (.bool false)], args := [d1, d2, d3, d4, d5, d6, d7] }
  | _ => none }
def RunFrameWrongFalsely : Prop := runFrameRow.holds Tryz.pinned (OpenSpec.ofChange runFrameWrong)

/-- 'touchstonekeep.RunParts': WHATEVER THE INPUT: true; the input reads as it did. -/
def runPartsSpec : ChangeSpec := { name := "runParts", fn := fun _ => fun
  | [d1, d2, d3, d4, d5, d6] => { results := [.lit (.bool true)], args := [d1, d2, d3, d4, d5, d6] }
  | _ => none }
def runPartsRow : OpenClaim := { program := "ytlohbilpimjmmaagreatdoor", sum := "d9006a911be6d27e12866d7c5f2aa3bcb73ac67dad0fc30c61e4b408a8a86bee", func := "touchstone/touchstonekeep.RunParts", spec := "runParts", inPlace := ["slices.overlaps[touchstone/api.Type]", "internal/bytealg.abigen_runtime_cmpstring", "slices.overlaps[touchstone/api.Value]"], unfollowed := true, recurses := true, named := ["touchstone/check.bad"], loops := true, apart := false }
def RunPartsSaid : Prop := runPartsRow.holds Tryz.pinned (OpenSpec.ofChange runPartsSpec)

/-- ITS FALSE NEIGHBOUR: 'it returns false'. Refute it at one input. -/
def runPartsWrong : ChangeSpec := { name := "runParts", fn := fun _ => fun
  | [d1, d2, d3, d4, d5, d6] => { results := [.lit (.bool false)], args := [d1, d2, d3, d4, d5, d6] }
  | _ => none }
def RunPartsWrongFalsely : Prop := runPartsRow.holds Tryz.pinned (OpenSpec.ofChange runPartsWrong)

/- THE SECOND FORM. 'bulk': how many values and letters a reading holds, each counted each time it is reached (what is shared counts as often as it is met; a slice's spare places count too). A statement '..UptoSaid' is the law's where the arguments, and the package variables that the reading takes, are together of bulk at most 1048576: NARROWER than '..Said'. Prove '..Said' where nothing that the law and all that it calls make is longer than what came in: it says more and counts as full. Else prove '..UptoSaid'. A law counts once. -/
mutual
def uptoBulk {H : Type} : DataW H → Nat
  | .lit (.string bytes) => bytes.length + 1
  | .lit _ => 1
  | .nil => 1
  | .ptr d => uptoBulk d + 1
  | .slice elems spare => uptoBulkAll elems + uptoBulkAll spare + 1
  | .agg parts => uptoBulkAll parts + 1
  | .iface _ d => uptoBulk d + 1
  | .map entries => uptoBulkEntries entries + 1
  | .held _ => 1
def uptoBulkAll {H : Type} : List (DataW H) → Nat
  | [] => 0
  | d :: r => uptoBulk d + uptoBulkAll r
def uptoBulkEntries {H : Type} : List (Lit × DataW H) → Nat
  | [] => 0
  | x :: r => uptoBulkEntry x + uptoBulkEntries r
def uptoBulkEntry {H : Type} : Lit × DataW H → Nat
  | (.string bytes, d) => bytes.length + uptoBulk d + 1
  | (_, d) => uptoBulk d + 1
 end
def uptoSmall : (H : Type) → List (DataW H) → Bool := fun _ ds => decide (uptoBulkAll ds ≤ 1048576)
def OpenSpec.upto (s : _root_.Go.ChangeSpec) : _root_.Go.OpenSpec := { _root_.Go.OpenSpec.ofChange s with cond := some uptoSmall }

/-- 'touchstonekeep.RunMore', WHERE WHAT IT READS IS OF BULK AT MOST 1048576: true; the input reads as it did. -/
def runMoreUptoRow : OpenClaim := { program := "ytlohbilpimjmmaagreatdoor", sum := "d9006a911be6d27e12866d7c5f2aa3bcb73ac67dad0fc30c61e4b408a8a86bee", func := "touchstone/touchstonekeep.RunMore", spec := "runMore", inPlace := ["slices.overlaps[touchstone/api.Type]", "internal/bytealg.abigen_runtime_cmpstring", "slices.overlaps[touchstone/api.Value]"], unfollowed := true, recurses := true, named := ["touchstone/check.bad"], loops := true, apart := false, narrowed := true }
def RunMoreUptoSaid : Prop := runMoreUptoRow.holds Tryz.pinned (OpenSpec.upto runMoreSpec)

/-- 'touchstonekeep.RunFrame', WHERE WHAT IT READS IS OF BULK AT MOST 1048576: true; the input reads as it did. -/
def runFrameUptoRow : OpenClaim := { program := "ytlohbilpimjmmaagreatdoor", sum := "d9006a911be6d27e12866d7c5f2aa3bcb73ac67dad0fc30c61e4b408a8a86bee", func := "touchstone/touchstonekeep.RunFrame", spec := "runFrame", inPlace := ["slices.overlaps[touchstone/api.Type]", "internal/bytealg.abigen_runtime_cmpstring", "slices.overlaps[touchstone/api.Value]"], unfollowed := true, recurses := true, named := ["touchstone/check.bad"], loops := true, apart := false, narrowed := true }
def RunFrameUptoSaid : Prop := runFrameUptoRow.holds Tryz.pinned (OpenSpec.upto runFrameSpec)

/-- 'touchstonekeep.RunParts', WHERE WHAT IT READS IS OF BULK AT MOST 1048576: true; the input reads as it did. -/
def runPartsUptoRow : OpenClaim := { program := "ytlohbilpimjmmaagreatdoor", sum := "d9006a911be6d27e12866d7c5f2aa3bcb73ac67dad0fc30c61e4b408a8a86bee", func := "touchstone/touchstonekeep.RunParts", spec := "runParts", inPlace := ["slices.overlaps[touchstone/api.Type]", "internal/bytealg.abigen_runtime_cmpstring", "slices.overlaps[touchstone/api.Value]"], unfollowed := true, recurses := true, named := ["touchstone/check.bad"], loops := true, apart := false, narrowed := true }
def RunPartsUptoSaid : Prop := runPartsUptoRow.holds Tryz.pinned (OpenSpec.upto runPartsSpec)

end Rows
end Go.Proofs.YtlohbilpimjmmaaGreatDoor
