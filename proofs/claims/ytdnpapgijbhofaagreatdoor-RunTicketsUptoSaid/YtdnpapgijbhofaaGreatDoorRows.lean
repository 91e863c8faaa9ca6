/-
  NARROWER THAN 'FOR EVERY INPUT', by the rows' own cells (each row's printed sentence says how): TopGas: loops · TopSpent: loops · TopMade: loops · TopGood: loops · TopCounters: loops · TopWhole: loops · TopRuns: loops · TopParts: loops · RunSound: loops · RunTickets: loops · TopTickets: loops · TopHeld: loops.
  DERIVED. THE GIVEN ROWS OF THIS SEAT. 12 by the template 'for every input the law returns true; each argument reads behind the call as it read before'; 0 by the template 'total and deterministic' (their statements: YtdnpapgijbhofaaGreatDoorTotals.lean).
  GIVEN WITH THE SEED: the statements are not yours to turn. If you find one false, say at which input.
  Laid BY PROGRAM, IN A SANDBOX (cutbox-rows.mjs): the forced cells as the released guide's own fill.sh prints them over the translation 3902825a70cd4aa4… (all of the seat's roots in one cut). By AI agents, Wed Nov 11 2026. No macro, syntax, notation, axiom, sorry.
-/
import Derived.Test.YtdnpapgijbhofaaGreatDoorChecked
import GoSem.Claim
import GoSem.ClaimJoined
import GoSem.ClaimMapViews
import Derived.JoinedTies
import Derived.KernelRfl
namespace Go.Proofs.YtdnpapgijbhofaaGreatDoor
/- THE CELL 'sum', in the pinned program and in every row, IS THE sha256 OF THE DUMP (.gsa) THAT YtdnpapgijbhofaaGreatDoorProg.lean LOADS. Nothing in Lean hashes anything: it is a label: what it is worth is what the hold of that sum in a sandbox is worth. -/
noncomputable def Tryz.pinned : Pinned := { name := "ytdnpapgijbhofaagreatdoor", sum := "3902825a70cd4aa4a71b2be8ff2f102967750bfd7b416dffd8ee94184a17ddfb", checked := Tryz.checked }
namespace Rows
def none {H : Type} : Left H := { results := [], args := [] }

/-- 'touchstonetop.TopGas': WHATEVER THE INPUT: true; the input reads as it did. -/
def topGasSpec : ChangeSpec := { name := "topGas", fn := fun _ => fun
  | [d] => { results := [.lit (.bool true)], args := [d] }
  | _ => none }
def topGasRow : OpenClaim := { program := "ytdnpapgijbhofaagreatdoor", sum := "3902825a70cd4aa4a71b2be8ff2f102967750bfd7b416dffd8ee94184a17ddfb", func := "touchstone/touchstonetop.TopGas", spec := "topGas", inPlace := ["slices.overlaps[touchstone/api.Type]", "internal/bytealg.abigen_runtime_cmpstring", "slices.overlaps[touchstone/api.Value]"], unfollowed := true, recurses := true, named := ["touchstone/check.bad"], loops := true, apart := false }
def TopGasSaid : Prop := topGasRow.holds Tryz.pinned (OpenSpec.ofChange topGasSpec)

/-- ITS FALSE NEIGHBOUR: 'it returns false'. Refute it at one input. -/
def topGasWrong : ChangeSpec := { name := "topGas", fn := fun _ => fun
  | [d] => { results := [.lit (.bool false)], args := [d] }
  | _ => none }
def TopGasWrongFalsely : Prop := topGasRow.holds Tryz.pinned (OpenSpec.ofChange topGasWrong)

/-- 'touchstonetop.TopSpent': WHATEVER THE INPUT: true; the input reads as it did. -/
def topSpentSpec : ChangeSpec := { name := "topSpent", fn := fun _ => fun
  | [d] => { results := [.lit (.bool true)], args := [d] }
  | _ => none }
def topSpentRow : OpenClaim := { program := "ytdnpapgijbhofaagreatdoor", sum := "3902825a70cd4aa4a71b2be8ff2f102967750bfd7b416dffd8ee94184a17ddfb", func := "touchstone/touchstonetop.TopSpent", spec := "topSpent", inPlace := ["slices.overlaps[touchstone/api.Type]", "internal/bytealg.abigen_runtime_cmpstring", "slices.overlaps[touchstone/api.Value]"], unfollowed := true, recurses := true, named := ["touchstone/check.bad"], loops := true, apart := false }
def TopSpentSaid : Prop := topSpentRow.holds Tryz.pinned (OpenSpec.ofChange topSpentSpec)

/-- ITS FALSE NEIGHBOUR: 'it returns false'. Refute it at one input. -/
def topSpentWrong : ChangeSpec := { name := "topSpent", fn := fun _ => fun
  | [d] => { results := [.lit (.bool false)], args := [d] }
  | _ => none }
def TopSpentWrongFalsely : Prop := topSpentRow.holds Tryz.pinned (OpenSpec.ofChange topSpentWrong)

/-- 'touchstonetop.TopMade': WHATEVER THE INPUT: true; the input reads as it did. -/
def topMadeSpec : ChangeSpec := { name := "topMade", fn := fun _ => fun
  | [d] => { results := [.lit (.bool true)], args := [d] }
  | _ => none }
def topMadeRow : OpenClaim := { program := "ytdnpapgijbhofaagreatdoor", sum := "3902825a70cd4aa4a71b2be8ff2f102967750bfd7b416dffd8ee94184a17ddfb", func := "touchstone/touchstonetop.TopMade", spec := "topMade", inPlace := ["slices.overlaps[touchstone/api.Type]", "internal/bytealg.abigen_runtime_cmpstring", "slices.overlaps[touchstone/api.Value]"], unfollowed := true, recurses := true, named := ["touchstone/check.bad"], loops := true, apart := false }
def TopMadeSaid : Prop := topMadeRow.holds Tryz.pinned (OpenSpec.ofChange topMadeSpec)

/-- ITS FALSE NEIGHBOUR: 'it returns false'. Refute it at one input. -/
def topMadeWrong : ChangeSpec := { name := "topMade", fn := fun _ => fun
  | [d] => { results := [.lit (.bool false)], args := [d] }
  | _ => none }
def TopMadeWrongFalsely : Prop := topMadeRow.holds Tryz.pinned (OpenSpec.ofChange topMadeWrong)

/-- 'touchstonetop.TopGood': WHATEVER THE INPUT: true; the input reads as it did. -/
def topGoodSpec : ChangeSpec := { name := "topGood", fn := fun _ => fun
  | [d] => { results := [.lit (.bool true)], args := [d] }
  | _ => none }
def topGoodRow : OpenClaim := { program := "ytdnpapgijbhofaagreatdoor", sum := "3902825a70cd4aa4a71b2be8ff2f102967750bfd7b416dffd8ee94184a17ddfb", func := "touchstone/touchstonetop.TopGood", spec := "topGood", inPlace := ["slices.overlaps[touchstone/api.Type]", "internal/bytealg.abigen_runtime_cmpstring", "slices.overlaps[touchstone/api.Value]"], unfollowed := true, recurses := true, named := ["touchstone/check.bad"], loops := true, apart := false }
def TopGoodSaid : Prop := topGoodRow.holds Tryz.pinned (OpenSpec.ofChange topGoodSpec)

/-- ITS FALSE NEIGHBOUR: 'it returns false'. Refute it at one input. -/
def topGoodWrong : ChangeSpec := { name := "topGood", fn := fun _ => fun
  | [d] => { results := [.lit (.bool false)], args := [d] }
  | _ => none }
def TopGoodWrongFalsely : Prop := topGoodRow.holds Tryz.pinned (OpenSpec.ofChange topGoodWrong)

/-- 'touchstonetop.TopCounters': WHATEVER THE INPUT: true; the input reads as it did. -/
def topCountersSpec : ChangeSpec := { name := "topCounters", fn := fun _ => fun
  | [d] => { results := [.lit (.bool true)], args := [d] }
  | _ => none }
def topCountersRow : OpenClaim := { program := "ytdnpapgijbhofaagreatdoor", sum := "3902825a70cd4aa4a71b2be8ff2f102967750bfd7b416dffd8ee94184a17ddfb", func := "touchstone/touchstonetop.TopCounters", spec := "topCounters", inPlace := ["slices.overlaps[touchstone/api.Type]", "internal/bytealg.abigen_runtime_cmpstring", "slices.overlaps[touchstone/api.Value]"], unfollowed := true, recurses := true, named := ["touchstone/check.bad"], loops := true, apart := false }
def TopCountersSaid : Prop := topCountersRow.holds Tryz.pinned (OpenSpec.ofChange topCountersSpec)

/-- ITS FALSE NEIGHBOUR: 'it returns false'. Refute it at one input. -/
def topCountersWrong : ChangeSpec := { name := "topCounters", fn := fun _ => fun
  | [d] => { results := [.lit (.bool false)], args := [d] }
  | _ => none }
def TopCountersWrongFalsely : Prop := topCountersRow.holds Tryz.pinned (OpenSpec.ofChange topCountersWrong)

/-- 'touchstonetop.TopWhole': WHATEVER THE INPUT: true; the input reads as it did. -/
def topWholeSpec : ChangeSpec := { name := "topWhole", fn := fun _ => fun
  | [d] => { results := [.lit (.bool true)], args := [d] }
  | _ => none }
def topWholeRow : OpenClaim := { program := "ytdnpapgijbhofaagreatdoor", sum := "3902825a70cd4aa4a71b2be8ff2f102967750bfd7b416dffd8ee94184a17ddfb", func := "touchstone/touchstonetop.TopWhole", spec := "topWhole", inPlace := ["slices.overlaps[touchstone/api.Type]", "internal/bytealg.abigen_runtime_cmpstring", "slices.overlaps[touchstone/api.Value]"], unfollowed := true, recurses := true, named := ["touchstone/check.bad"], loops := true, apart := false }
def TopWholeSaid : Prop := topWholeRow.holds Tryz.pinned (OpenSpec.ofChange topWholeSpec)

/-- ITS FALSE NEIGHBOUR: 'it returns false'. Refute it at one input. -/
def topWholeWrong : ChangeSpec := { name := "topWhole", fn := fun _ => fun
  | [d] => { results := [.lit (.bool false)], args := [d] }
  | _ => none }
def TopWholeWrongFalsely : Prop := topWholeRow.holds Tryz.pinned (OpenSpec.ofChange topWholeWrong)

/-- 'touchstonetop.TopRuns': WHATEVER THE INPUT: true; the input reads as it did. -/
def topRunsSpec : ChangeSpec := { name := "topRuns", fn := fun _ => fun
  | [d] => { results := [.lit (.bool true)], args := [d] }
  | _ => none }
def topRunsRow : OpenClaim := { program := "ytdnpapgijbhofaagreatdoor", sum := "3902825a70cd4aa4a71b2be8ff2f102967750bfd7b416dffd8ee94184a17ddfb", func := "touchstone/touchstonetop.TopRuns", spec := "topRuns", inPlace := ["slices.overlaps[touchstone/api.Type]", "internal/bytealg.abigen_runtime_cmpstring", "slices.overlaps[touchstone/api.Value]"], unfollowed := true, recurses := true, named := ["touchstone/check.bad"], loops := true, apart := false }
def TopRunsSaid : Prop := topRunsRow.holds Tryz.pinned (OpenSpec.ofChange topRunsSpec)

/-- ITS FALSE NEIGHBOUR: 'it returns false'. Refute it at one input. -/
def topRunsWrong : ChangeSpec := { name := "topRuns", fn := fun _ => fun
  | [d] => { results := [.lit (.bool false)], args := [d] }
  | _ => none }
def TopRunsWrongFalsely : Prop := topRunsRow.holds Tryz.pinned (OpenSpec.ofChange topRunsWrong)

/-- 'touchstonetop.TopParts': WHATEVER THE INPUT: true; the input reads as it did. -/
def topPartsSpec : ChangeSpec := { name := "topParts", fn := fun _ => fun
  | [d1, d2] => { results := [.lit (.bool true)], args := [d1, d2] }
  | _ => none }
def topPartsRow : OpenClaim := { program := "ytdnpapgijbhofaagreatdoor", sum := "3902825a70cd4aa4a71b2be8ff2f102967750bfd7b416dffd8ee94184a17ddfb", func := "touchstone/touchstonetop.TopParts", spec := "topParts", inPlace := ["slices.overlaps[touchstone/api.Type]", "internal/bytealg.abigen_runtime_cmpstring", "slices.overlaps[touchstone/api.Value]"], unfollowed := true, recurses := true, named := ["touchstone/check.bad"], loops := true, apart := false }
def TopPartsSaid : Prop := topPartsRow.holds Tryz.pinned (OpenSpec.ofChange topPartsSpec)

/-- ITS FALSE NEIGHBOUR: 'it returns false'. Refute it at one input. -/
def topPartsWrong : ChangeSpec := { name := "topParts", fn := fun _ => fun
  | [d1, d2] => { results := [.lit (.bool false)], args := [d1, d2] }
  | _ => none }
def TopPartsWrongFalsely : Prop := topPartsRow.holds Tryz.pinned (OpenSpec.ofChange topPartsWrong)

/-- 'touchstonekeep.RunSound': WHATEVER THE INPUT: true; the input reads as it did. -/
def runSoundSpec : ChangeSpec := { name := "runSound", fn := fun _ => fun
  | [d1, d2, d3, d4, d5] => { results := [.lit (.bool true)], args := [d1, d2, d3, d4, d5] }
  | _ => none }
def runSoundRow : OpenClaim := { program := "ytdnpapgijbhofaagreatdoor", sum := "3902825a70cd4aa4a71b2be8ff2f102967750bfd7b416dffd8ee94184a17ddfb", func := "touchstone/touchstonekeep.RunSound", spec := "runSound", inPlace := ["slices.overlaps[touchstone/api.Type]", "internal/bytealg.abigen_runtime_cmpstring", "slices.overlaps[touchstone/api.Value]"], unfollowed := true, recurses := true, named := ["touchstone/check.bad"], loops := true, apart := false }
def RunSoundSaid : Prop := runSoundRow.holds Tryz.pinned (OpenSpec.ofChange runSoundSpec)

/-- ITS FALSE NEIGHBOUR: 'it returns false'. Refute it at one input. -/
def runSoundWrong : ChangeSpec := { name := "runSound", fn := fun _ => fun
  | [d1, d2, d3, d4, d5] => { results := [.lit (.bool false)], args := [d1, d2, d3, d4, d5] }
  | _ => none }
def RunSoundWrongFalsely : Prop := runSoundRow.holds Tryz.pinned (OpenSpec.ofChange runSoundWrong)

/-- 'touchstonekeep.RunTickets': WHATEVER THE INPUT: true; the input reads as it did. -/
def runTicketsSpec : ChangeSpec := { name := "runTickets", fn := fun _ => fun
  | [d1, d2, d3, d4, d5] => { results := [.lit (.bool true)], args := [d1, d2, d3, d4, d5] }
  | _ => none }
def runTicketsRow : OpenClaim := { program := "ytdnpapgijbhofaagreatdoor", sum := "3902825a70cd4aa4a71b2be8ff2f102967750bfd7b416dffd8ee94184a17ddfb", func := "touchstone/touchstonekeep.RunTickets", spec := "runTickets", inPlace := ["slices.overlaps[touchstone/api.Type]", "internal/bytealg.abigen_runtime_cmpstring", "slices.overlaps[touchstone/api.Value]"], unfollowed := true, recurses := true, named := ["touchstone/check.bad"], loops := true, apart := false }
def RunTicketsSaid : Prop := runTicketsRow.holds Tryz.pinned (OpenSpec.ofChange runTicketsSpec)

/-- ITS FALSE NEIGHBOUR: 'it returns false'. Refute it at one input. -/
def runTicketsWrong : ChangeSpec := { name := "runTickets", fn := fun _ => fun
  | [d1, d2, d3, d4, d5] => { results := [.lit (.bool false)], args := [d1, d2, d3, d4, d5] }
  | _ => none }
def RunTicketsWrongFalsely : Prop := runTicketsRow.holds Tryz.pinned (OpenSpec.ofChange runTicketsWrong)

/-- 'touchstonetop.TopTickets': WHATEVER THE INPUT: true; the input reads as it did. -/
def topTicketsSpec : ChangeSpec := { name := "topTickets", fn := fun _ => fun
  | [d] => { results := [.lit (.bool true)], args := [d] }
  | _ => none }
def topTicketsRow : OpenClaim := { program := "ytdnpapgijbhofaagreatdoor", sum := "3902825a70cd4aa4a71b2be8ff2f102967750bfd7b416dffd8ee94184a17ddfb", func := "touchstone/touchstonetop.TopTickets", spec := "topTickets", inPlace := ["slices.overlaps[touchstone/api.Type]", "internal/bytealg.abigen_runtime_cmpstring", "slices.overlaps[touchstone/api.Value]"], unfollowed := true, recurses := true, named := ["touchstone/check.bad"], loops := true, apart := false }
def TopTicketsSaid : Prop := topTicketsRow.holds Tryz.pinned (OpenSpec.ofChange topTicketsSpec)

/-- ITS FALSE NEIGHBOUR: 'it returns false'. Refute it at one input. -/
def topTicketsWrong : ChangeSpec := { name := "topTickets", fn := fun _ => fun
  | [d] => { results := [.lit (.bool false)], args := [d] }
  | _ => none }
def TopTicketsWrongFalsely : Prop := topTicketsRow.holds Tryz.pinned (OpenSpec.ofChange topTicketsWrong)

/-- 'touchstonetop.TopHeld': WHATEVER THE INPUT: true; the input reads as it did. -/
def topHeldSpec : ChangeSpec := { name := "topHeld", fn := fun _ => fun
  | [d1, d2, d3, d4] => { results := [.lit (.bool true)], args := [d1, d2, d3, d4] }
  | _ => none }
def topHeldRow : OpenClaim := { program := "ytdnpapgijbhofaagreatdoor", sum := "3902825a70cd4aa4a71b2be8ff2f102967750bfd7b416dffd8ee94184a17ddfb", func := "touchstone/touchstonetop.TopHeld", spec := "topHeld", inPlace := ["slices.overlaps[touchstone/api.Type]", "internal/bytealg.abigen_runtime_cmpstring", "slices.overlaps[touchstone/api.Value]"], unfollowed := true, recurses := true, named := ["touchstone/check.bad"], loops := true, apart := false }
def TopHeldSaid : Prop := topHeldRow.holds Tryz.pinned (OpenSpec.ofChange topHeldSpec)

/-- ITS FALSE NEIGHBOUR: 'it returns false'. Refute it at one input. -/
def topHeldWrong : ChangeSpec := { name := "topHeld", fn := fun _ => fun
  | [d1, d2, d3, d4] => { results := [.lit (.bool false)], args := [d1, d2, d3, d4] }
  | _ => none }
def TopHeldWrongFalsely : Prop := topHeldRow.holds Tryz.pinned (OpenSpec.ofChange topHeldWrong)

/- THE SECOND FORM. 'bulk': how many values and letters a reading holds, each counted each time it is reached (what is shared counts as often as it is met; a slice's spare places count too). A statement '..UptoSaid' is the law's where the arguments, and the package variables that the reading takes, are together of bulk at most 1048576: NARROWER than '..Said'. Prove '..Said' where nothing that the law and all that it calls make is longer than what came in: it says more and counts as full. Else prove '..UptoSaid'. A law counts once. -/
mutual
def uptoBulk {H : Type} : DataW H → Nat
  | .lit (.string bytes) => bytes.length + 1
  | .lit _ => 1
  | .nil => 1
  | .ptr d => uptoBulk d + 1
  | .slice elems spare => uptoBulkAll elems + uptoBulkAll spare + 1
  | .agg parts => uptoBulkAll parts + 1
  | .iface _ d => uptoBulk d + 1
  | .map entries => uptoBulkEntries entries + 1
  | .held _ => 1
def uptoBulkAll {H : Type} : List (DataW H) → Nat
  | [] => 0
  | d :: r => uptoBulk d + uptoBulkAll r
def uptoBulkEntries {H : Type} : List (Lit × DataW H) → Nat
  | [] => 0
  | x :: r => uptoBulkEntry x + uptoBulkEntries r
def uptoBulkEntry {H : Type} : Lit × DataW H → Nat
  | (.string bytes, d) => bytes.length + uptoBulk d + 1
  | (_, d) => uptoBulk d + 1
 end
def uptoSmall : (H : Type) → List (DataW H) → Bool := fun _ ds => decide (uptoBulkAll ds ≤ 1048576)
def OpenSpec.upto (s : _root_.Go.ChangeSpec) : _root_.Go.OpenSpec := { _root_.Go.OpenSpec.ofChange s with cond := some uptoSmall }

/-- 'touchstonetop.TopGas', WHERE WHAT IT READS IS OF BULK AT MOST 1048576: true; the input reads as it did. -/
def topGasUptoRow : OpenClaim := { program := "ytdnpapgijbhofaagreatdoor", sum := "3902825a70cd4aa4a71b2be8ff2f102967750bfd7b416dffd8ee94184a17ddfb", func := "touchstone/touchstonetop.TopGas", spec := "topGas", inPlace := ["slices.overlaps[touchstone/api.Type]", "internal/bytealg.abigen_runtime_cmpstring", "slices.overlaps[touchstone/api.Value]"], unfollowed := true, recurses := true, named := ["touchstone/check.bad"], loops := true, apart := false, narrowed := true }
def TopGasUptoSaid : Prop := topGasUptoRow.holds Tryz.pinned (OpenSpec.upto topGasSpec)

/-- 'touchstonetop.TopSpent', WHERE WHAT IT READS IS OF BULK AT MOST 1048576: true; the input reads as it did. -/
def topSpentUptoRow : OpenClaim := { program := "ytdnpapgijbhofaagreatdoor", sum := "3902825a70cd4aa4a71b2be8ff2f102967750bfd7b416dffd8ee94184a17ddfb", func := "touchstone/touchstonetop.TopSpent", spec := "topSpent", inPlace := ["slices.overlaps[touchstone/api.Type]", "internal/bytealg.abigen_runtime_cmpstring", "slices.overlaps[touchstone/api.Value]"], unfollowed := true, recurses := true, named := ["touchstone/check.bad"], loops := true, apart := false, narrowed := true }
def TopSpentUptoSaid : Prop := topSpentUptoRow.holds Tryz.pinned (OpenSpec.upto topSpentSpec)

/-- 'touchstonetop.TopMade', WHERE WHAT IT READS IS OF BULK AT MOST 1048576: true; the input reads as it did. -/
def topMadeUptoRow : OpenClaim := { program := "ytdnpapgijbhofaagreatdoor", sum := "3902825a70cd4aa4a71b2be8ff2f102967750bfd7b416dffd8ee94184a17ddfb", func := "touchstone/touchstonetop.TopMade", spec := "topMade", inPlace := ["slices.overlaps[touchstone/api.Type]", "internal/bytealg.abigen_runtime_cmpstring", "slices.overlaps[touchstone/api.Value]"], unfollowed := true, recurses := true, named := ["touchstone/check.bad"], loops := true, apart := false, narrowed := true }
def TopMadeUptoSaid : Prop := topMadeUptoRow.holds Tryz.pinned (OpenSpec.upto topMadeSpec)

/-- 'touchstonetop.TopGood', WHERE WHAT IT READS IS OF BULK AT MOST 1048576: true; the input reads as it did. -/
def topGoodUptoRow : OpenClaim := { program := "ytdnpapgijbhofaagreatdoor", sum := "3902825a70cd4aa4a71b2be8ff2f102967750bfd7b416dffd8ee94184a17ddfb", func := "touchstone/touchstonetop.TopGood", spec := "topGood", inPlace := ["slices.overlaps[touchstone/api.Type]", "internal/bytealg.abigen_runtime_cmpstring", "slices.overlaps[touchstone/api.Value]"], unfollowed := true, recurses := true, named := ["touchstone/check.bad"], loops := true, apart := false, narrowed := true }
def TopGoodUptoSaid : Prop := topGoodUptoRow.holds Tryz.pinned (OpenSpec.upto topGoodSpec)

/-- 'touchstonetop.TopCounters', WHERE WHAT IT READS IS OF BULK AT MOST 1048576: true; the input reads as it did. -/
def topCountersUptoRow : OpenClaim := { program := "ytdnpapgijbhofaagreatdoor", sum := "3902825a70cd4aa4a71b2be8ff2f102967750bfd7b416dffd8ee94184a17ddfb", func := "touchstone/touchstonetop.TopCounters", spec := "topCounters", inPlace := ["slices.overlaps[touchstone/api.Type]", "internal/bytealg.abigen_runtime_cmpstring", "slices.overlaps[touchstone/api.Value]"], unfollowed := true, recurses := true, named := ["touchstone/check.bad"], loops := true, apart := false, narrowed := true }
def TopCountersUptoSaid : Prop := topCountersUptoRow.holds Tryz.pinned (OpenSpec.upto topCountersSpec)

/-- 'touchstonetop.TopWhole', WHERE WHAT IT READS IS OF BULK AT MOST 1048576: true; the input reads as it did. -/
def topWholeUptoRow : OpenClaim := { program := "ytdnpapgijbhofaagreatdoor", sum := "3902825a70cd4aa4a71b2be8ff2f102967750bfd7b416dffd8ee94184a17ddfb", func := "touchstone/touchstonetop.TopWhole", spec := "topWhole", inPlace := ["slices.overlaps[touchstone/api.Type]", "internal/bytealg.abigen_runtime_cmpstring", "slices.overlaps[touchstone/api.Value]"], unfollowed := true, recurses := true, named := ["touchstone/check.bad"], loops := true, apart := false, narrowed := true }
def TopWholeUptoSaid : Prop := topWholeUptoRow.holds Tryz.pinned (OpenSpec.upto topWholeSpec)

/-- 'touchstonetop.TopRuns', WHERE WHAT IT READS IS OF BULK AT MOST 1048576: true; the input reads as it did. -/
def topRunsUptoRow : OpenClaim := { program := "ytdnpapgijbhofaagreatdoor", sum := "3902825a70cd4aa4a71b2be8ff2f102967750bfd7b416dffd8ee94184a17ddfb", func := "touchstone/touchstonetop.TopRuns", spec := "topRuns", inPlace := ["slices.overlaps[touchstone/api.Type]", "internal/bytealg.abigen_runtime_cmpstring", "slices.overlaps[touchstone/api.Value]"], unfollowed := true, recurses := true, named := ["touchstone/check.bad"], loops := true, apart := false, narrowed := true }
def TopRunsUptoSaid : Prop := topRunsUptoRow.holds Tryz.pinned (OpenSpec.upto topRunsSpec)

/-- 'touchstonetop.TopParts', WHERE WHAT IT READS IS OF BULK AT MOST 1048576: true; the input reads as it did. -/
def topPartsUptoRow : OpenClaim := { program := "ytdnpapgijbhofaagreatdoor", sum := "3902825a70cd4aa4a71b2be8ff2f102967750bfd7b416dffd8ee94184a17ddfb", func := "touchstone/touchstonetop.TopParts", spec := "topParts", inPlace := ["slices.overlaps[touchstone/api.Type]", "internal/bytealg.abigen_runtime_cmpstring", "slices.overlaps[touchstone/api.Value]"], unfollowed := true, recurses := true, named := ["touchstone/check.bad"], loops := true, apart := false, narrowed := true }
def TopPartsUptoSaid : Prop := topPartsUptoRow.holds Tryz.pinned (OpenSpec.upto topPartsSpec)

/-- 'touchstonekeep.RunSound', WHERE WHAT IT READS IS OF BULK AT MOST 1048576: true; the input reads as it did. -/
def runSoundUptoRow : OpenClaim := { program := "ytdnpapgijbhofaagreatdoor", sum := "3902825a70cd4aa4a71b2be8ff2f102967750bfd7b416dffd8ee94184a17ddfb", func := "touchstone/touchstonekeep.RunSound", spec := "runSound", inPlace := ["slices.overlaps[touchstone/api.Type]", "internal/bytealg.abigen_runtime_cmpstring", "slices.overlaps[touchstone/api.Value]"], unfollowed := true, recurses := true, named := ["touchstone/check.bad"], loops := true, apart := false, narrowed := true }
def RunSoundUptoSaid : Prop := runSoundUptoRow.holds Tryz.pinned (OpenSpec.upto runSoundSpec)

/-- 'touchstonekeep.RunTickets', WHERE WHAT IT READS IS OF BULK AT MOST 1048576: true; the input reads as it did. -/
def runTicketsUptoRow : OpenClaim := { program := "ytdnpapgijbhofaagreatdoor", sum := "3902825a70cd4aa4a71b2be8ff2f102967750bfd7b416dffd8ee94184a17ddfb", func := "touchstone/touchstonekeep.RunTickets", spec := "runTickets", inPlace := ["slices.overlaps[touchstone/api.Type]", "internal/bytealg.abigen_runtime_cmpstring", "slices.overlaps[touchstone/api.Value]"], unfollowed := true, recurses := true, named := ["touchstone/check.bad"], loops := true, apart := false, narrowed := true }
def RunTicketsUptoSaid : Prop := runTicketsUptoRow.holds Tryz.pinned (OpenSpec.upto runTicketsSpec)

/-- 'touchstonetop.TopTickets', WHERE WHAT IT READS IS OF BULK AT MOST 1048576: true; the input reads as it did. -/
def topTicketsUptoRow : OpenClaim := { program := "ytdnpapgijbhofaagreatdoor", sum := "3902825a70cd4aa4a71b2be8ff2f102967750bfd7b416dffd8ee94184a17ddfb", func := "touchstone/touchstonetop.TopTickets", spec := "topTickets", inPlace := ["slices.overlaps[touchstone/api.Type]", "internal/bytealg.abigen_runtime_cmpstring", "slices.overlaps[touchstone/api.Value]"], unfollowed := true, recurses := true, named := ["touchstone/check.bad"], loops := true, apart := false, narrowed := true }
def TopTicketsUptoSaid : Prop := topTicketsUptoRow.holds Tryz.pinned (OpenSpec.upto topTicketsSpec)

/-- 'touchstonetop.TopHeld', WHERE WHAT IT READS IS OF BULK AT MOST 1048576: true; the input reads as it did. -/
def topHeldUptoRow : OpenClaim := { program := "ytdnpapgijbhofaagreatdoor", sum := "3902825a70cd4aa4a71b2be8ff2f102967750bfd7b416dffd8ee94184a17ddfb", func := "touchstone/touchstonetop.TopHeld", spec := "topHeld", inPlace := ["slices.overlaps[touchstone/api.Type]", "internal/bytealg.abigen_runtime_cmpstring", "slices.overlaps[touchstone/api.Value]"], unfollowed := true, recurses := true, named := ["touchstone/check.bad"], loops := true, apart := false, narrowed := true }
def TopHeldUptoSaid : Prop := topHeldUptoRow.holds Tryz.pinned (OpenSpec.upto topHeldSpec)

end Rows
end Go.Proofs.YtdnpapgijbhofaaGreatDoor
