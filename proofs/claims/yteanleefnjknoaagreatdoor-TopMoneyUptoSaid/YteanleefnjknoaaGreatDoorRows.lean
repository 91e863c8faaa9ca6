/-
  NARROWER THAN 'FOR EVERY INPUT', by the rows' own cells (each row's printed sentence says how): TopMoney: loops · RunSound: loops, calm · RunTickets: loops, calm.
  DERIVED. THE GIVEN ROWS OF THIS SEAT. 3 by the template 'for every input the law returns true; each argument reads behind the call as it read before'; 0 by the template 'total and deterministic' (their statements: YteanleefnjknoaaGreatDoorTotals.lean).
  GIVEN WITH THE SEED: the statements are not yours to turn. If you find one false, say at which input.
  Laid BY PROGRAM, IN A SANDBOX (cutbox-rows.mjs): the forced cells as the released guide's own fill.sh prints them over the translation bb092f6f30da5e2f… (all of the seat's roots in one cut). By AI agents, Wed Nov 11 2026. No macro, syntax, notation, axiom, sorry.
-/
import Derived.Test.YteanleefnjknoaaGreatDoorChecked
import GoSem.Claim
import GoSem.ClaimJoined
import GoSem.ClaimMapViews
import Derived.JoinedTies
import Derived.KernelRfl
namespace Go.Proofs.YteanleefnjknoaaGreatDoor
/- THE CELL 'sum', in the pinned program and in every row, IS THE sha256 OF THE DUMP (.gsa) THAT YteanleefnjknoaaGreatDoorProg.lean LOADS. Nothing in Lean hashes anything: it is a label: what it is worth is what the hold of that sum in a sandbox is worth. -/
noncomputable def Tryz.pinned : Pinned := { name := "yteanleefnjknoaagreatdoor", sum := "bb092f6f30da5e2f6219482a0251c8134ea72274aadfbe70282a5784d18da0ec", checked := Tryz.checked }
namespace Rows
def none {H : Type} : Left H := { results := [], args := [] }

/-- 'touchstonetop.TopMoney': WHATEVER THE INPUT: true; the input reads as it did. -/
def topMoneySpec : ChangeSpec := { name := "topMoney", fn := fun _ => fun
  | [d] => { results := [.lit (.bool true)], args := [d] }
  | _ => none }
def topMoneyRow : OpenClaim := { program := "yteanleefnjknoaagreatdoor", sum := "bb092f6f30da5e2f6219482a0251c8134ea72274aadfbe70282a5784d18da0ec", func := "touchstone/touchstonetop.TopMoney", spec := "topMoney", inPlace := ["slices.overlaps[touchstone/api.Type]", "internal/bytealg.abigen_runtime_cmpstring", "slices.overlaps[touchstone/api.Value]"], unfollowed := true, recurses := true, named := ["touchstone/check.bad"], loops := true, apart := false }
def TopMoneySaid : Prop := topMoneyRow.holds Tryz.pinned (OpenSpec.ofChange topMoneySpec)

/-- ITS FALSE NEIGHBOUR: 'it returns false'. Refute it at one input. -/
def topMoneyWrong : ChangeSpec := { name := "topMoney", fn := fun _ => fun
  | [d] => { results := [.lit (.bool false)], args := [d] }
  | _ => none }
def TopMoneyWrongFalsely : Prop := topMoneyRow.holds Tryz.pinned (OpenSpec.ofChange topMoneyWrong)

/-- 'touchstonekeep.RunSound': WHATEVER THE INPUT: true; the input reads as it did. -/
def runSoundSpec : ChangeSpec := { name := "runSound", fn := fun _ => fun
  | [d1, d2, d3, d4, d5] => { results := [.lit (.bool true)], args := [d1, d2, d3, d4, d5] }
  | _ => none }
def runSoundRow : OpenClaim := { program := "yteanleefnjknoaagreatdoor", sum := "bb092f6f30da5e2f6219482a0251c8134ea72274aadfbe70282a5784d18da0ec", func := "touchstone/touchstonekeep.RunSound", spec := "runSound", inPlace := ["slices.overlaps[touchstone/api.Type]", "internal/bytealg.abigen_runtime_cmpstring", "slices.overlaps[touchstone/api.Value]"], unfollowed := true, recurses := true, named := ["touchstone/check.bad"], loops := true, apart := false, calm := true, outside := [.timePasses] }
def RunSoundSaid : Prop := runSoundRow.holds Tryz.pinned (OpenSpec.ofChange runSoundSpec)

/-- ITS FALSE NEIGHBOUR: 'it returns false'. Refute it at one input. -/
def runSoundWrong : ChangeSpec := { name := "runSound", fn := fun _ => fun
  | [d1, d2, d3, d4, d5] => { results := [.lit (.bool false)], args := [d1, d2, d3, d4, d5] }
  | _ => none }
def RunSoundWrongFalsely : Prop := runSoundRow.holds Tryz.pinned (OpenSpec.ofChange runSoundWrong)

/-- 'touchstonekeep.RunTickets': WHATEVER THE INPUT: true; the input reads as it did. -/
def runTicketsSpec : ChangeSpec := { name := "runTickets", fn := fun _ => fun
  | [d1, d2, d3, d4, d5] => { results := [.lit (.bool true)], args := [d1, d2, d3, d4, d5] }
  | _ => none }
def runTicketsRow : OpenClaim := { program := "yteanleefnjknoaagreatdoor", sum := "bb092f6f30da5e2f6219482a0251c8134ea72274aadfbe70282a5784d18da0ec", func := "touchstone/touchstonekeep.RunTickets", spec := "runTickets", inPlace := ["slices.overlaps[touchstone/api.Type]", "internal/bytealg.abigen_runtime_cmpstring", "slices.overlaps[touchstone/api.Value]"], unfollowed := true, recurses := true, named := ["touchstone/check.bad"], loops := true, apart := false, calm := true, outside := [.timePasses] }
def RunTicketsSaid : Prop := runTicketsRow.holds Tryz.pinned (OpenSpec.ofChange runTicketsSpec)

/-- ITS FALSE NEIGHBOUR: 'it returns false'. Refute it at one input. -/
def runTicketsWrong : ChangeSpec := { name := "runTickets", fn := fun _ => fun
  | [d1, d2, d3, d4, d5] => { results := [.lit (.bool false)], args := [d1, d2, d3, d4, d5] }
  | _ => none }
def RunTicketsWrongFalsely : Prop := runTicketsRow.holds Tryz.pinned (OpenSpec.ofChange runTicketsWrong)

/- THE SECOND FORM. 'bulk': how many values and letters a reading holds, each counted each time it is reached (what is shared counts as often as it is met; a slice's spare places count too). A statement '..UptoSaid' is the law's where the arguments, and the package variables that the reading takes, are together of bulk at most 1048576: NARROWER than '..Said'. Prove '..Said' where nothing that the law and all that it calls make is longer than what came in: it says more and counts as full. Else prove '..UptoSaid'. A law counts once. -/
mutual
def uptoBulk {H : Type} : DataW H → Nat
  | .lit (.string bytes) => bytes.length + 1
  | .lit _ => 1
  | .nil => 1
  | .ptr d => uptoBulk d + 1
  | .slice elems spare => uptoBulkAll elems + uptoBulkAll spare + 1
  | .agg parts => uptoBulkAll parts + 1
  | .iface _ d => uptoBulk d + 1
  | .map entries => uptoBulkEntries entries + 1
  | .held _ => 1
def uptoBulkAll {H : Type} : List (DataW H) → Nat
  | [] => 0
  | d :: r => uptoBulk d + uptoBulkAll r
def uptoBulkEntries {H : Type} : List (Lit × DataW H) → Nat
  | [] => 0
  | x :: r => uptoBulkEntry x + uptoBulkEntries r
def uptoBulkEntry {H : Type} : Lit × DataW H → Nat
  | (.string bytes, d) => bytes.length + uptoBulk d + 1
  | (_, d) => uptoBulk d + 1
 end
def uptoSmall : (H : Type) → List (DataW H) → Bool := fun _ ds => decide (uptoBulkAll ds ≤ 1048576)
def OpenSpec.upto (s : _root_.Go.ChangeSpec) : _root_.Go.OpenSpec := { _root_.Go.OpenSpec.ofChange s with cond := some uptoSmall }

/-- 'touchstonetop.TopMoney', WHERE WHAT IT READS IS OF BULK AT MOST 1048576: true; the input reads as it did. -/
def topMoneyUptoRow : OpenClaim := { program := "yteanleefnjknoaagreatdoor", sum := "bb092f6f30da5e2f6219482a0251c8134ea72274aadfbe70282a5784d18da0ec", func := "touchstone/touchstonetop.TopMoney", spec := "topMoney", inPlace := ["slices.overlaps[touchstone/api.Type]", "internal/bytealg.abigen_runtime_cmpstring", "slices.overlaps[touchstone/api.Value]"], unfollowed := true, recurses := true, named := ["touchstone/check.bad"], loops := true, apart := false, narrowed := true }
def TopMoneyUptoSaid : Prop := topMoneyUptoRow.holds Tryz.pinned (OpenSpec.upto topMoneySpec)

end Rows
end Go.Proofs.YteanleefnjknoaaGreatDoor
