/-
  NARROWER THAN 'FOR EVERY INPUT', by the rows' own cells (each row's printed sentence says how): KindParses: loops · TreeEncodes: loops · KindOrder: loops · KindTells: loops · KindBack: loops · TreeBack: loops · TreeCut: loops · ValueOneType: loops · ValueHas: loops · ValueOrder: loops · ValueTells: loops · ValueParses: loops · ValueBack: loops · ValueOnly: loops.
  DERIVED. THE GIVEN ROWS OF THIS SEAT. 21 by the template 'for every input the law returns true; each argument reads behind the call as it read before'; 0 by the template 'total and deterministic' (their statements: YtcinhjfonmjneaaTotals.lean).
  GIVEN WITH THE SEED: the statements are not yours to turn. If you find one false, say at which input.
  Laid BY PROGRAM, IN A SANDBOX (cutbox-rows.mjs): the forced cells as the released guide's own fill.sh prints them over the translation 2e474f7cb8834c13… (all of the seat's roots in one cut). By AI agents, Wed Nov 11 2026. No macro, syntax, notation, axiom, sorry.
-/
import Derived.Test.YtcinhjfonmjneaaChecked
import GoSem.Claim
import GoSem.ClaimJoined
import GoSem.ClaimMapViews
import Derived.JoinedTies
import Derived.KernelRfl
namespace Go.Proofs.Ytcinhjfonmjneaa
/- THE CELL 'sum', in the pinned program and in every row, IS THE sha256 OF THE DUMP (.gsa) THAT YtcinhjfonmjneaaProg.lean LOADS. Nothing in Lean hashes anything: it is a label: what it is worth is what the hold of that sum in a sandbox is worth. -/
noncomputable def Try.pinned : Pinned := { name := "ytcinhjfonmjneaa", sum := "2e474f7cb8834c1331fffe6239c96c69cd88da8cffc6a2972c205d488a70505d", checked := Try.checked }
namespace Rows
def none {H : Type} : Left H := { results := [], args := [] }

/-- 'touchstonelaw.Names': WHATEVER THE INPUT: true; the input reads as it did. -/
def namesSpec : ChangeSpec := { name := "names", fn := fun _ => fun
  | [] => { results := [.lit (.bool true)], args := [] }
  | _ => none }
def namesRow : OpenClaim := { program := "ytcinhjfonmjneaa", sum := "2e474f7cb8834c1331fffe6239c96c69cd88da8cffc6a2972c205d488a70505d", func := "touchstone/touchstonelaw.Names", spec := "names", apart := false }
def NamesSaid : Prop := namesRow.holds Try.pinned (OpenSpec.ofChange namesSpec)

/-- ITS FALSE NEIGHBOUR: 'it returns false'. Refute it at one input. -/
def namesWrong : ChangeSpec := { name := "names", fn := fun _ => fun
  | [] => { results := [.lit (.bool false)], args := [] }
  | _ => none }
def NamesWrongFalsely : Prop := namesRow.holds Try.pinned (OpenSpec.ofChange namesWrong)

/-- 'touchstonekeep.NumDivides': WHATEVER THE INPUT: true; the input reads as it did. -/
def numDividesSpec : ChangeSpec := { name := "numDivides", fn := fun _ => fun
  | [d1, d2] => { results := [.lit (.bool true)], args := [d1, d2] }
  | _ => none }
def numDividesRow : OpenClaim := { program := "ytcinhjfonmjneaa", sum := "2e474f7cb8834c1331fffe6239c96c69cd88da8cffc6a2972c205d488a70505d", func := "touchstone/touchstonekeep.NumDivides", spec := "numDivides", apart := false }
def NumDividesSaid : Prop := numDividesRow.holds Try.pinned (OpenSpec.ofChange numDividesSpec)

/-- ITS FALSE NEIGHBOUR: 'it returns false'. Refute it at one input. -/
def numDividesWrong : ChangeSpec := { name := "numDivides", fn := fun _ => fun
  | [d1, d2] => { results := [.lit (.bool false)], args := [d1, d2] }
  | _ => none }
def NumDividesWrongFalsely : Prop := numDividesRow.holds Try.pinned (OpenSpec.ofChange numDividesWrong)

/-- 'touchstonelaw.KindParses': WHATEVER THE INPUT: true; the input reads as it did. -/
def kindParsesSpec : ChangeSpec := { name := "kindParses", fn := fun _ => fun
  | [d] => { results := [.lit (.bool true)], args := [d] }
  | _ => none }
def kindParsesRow : OpenClaim := { program := "ytcinhjfonmjneaa", sum := "2e474f7cb8834c1331fffe6239c96c69cd88da8cffc6a2972c205d488a70505d", func := "touchstone/touchstonelaw.KindParses", spec := "kindParses", unfollowed := true, recurses := true, loops := true, apart := false }
def KindParsesSaid : Prop := kindParsesRow.holds Try.pinned (OpenSpec.ofChange kindParsesSpec)

/-- ITS FALSE NEIGHBOUR: 'it returns false'. Refute it at one input. -/
def kindParsesWrong : ChangeSpec := { name := "kindParses", fn := fun _ => fun
  | [d] => { results := [.lit (.bool false)], args := [d] }
  | _ => none }
def KindParsesWrongFalsely : Prop := kindParsesRow.holds Try.pinned (OpenSpec.ofChange kindParsesWrong)

/-- 'touchstonelaw.NumReckons': WHATEVER THE INPUT: true; the input reads as it did. -/
def numReckonsSpec : ChangeSpec := { name := "numReckons", fn := fun _ => fun
  | [d1, d2] => { results := [.lit (.bool true)], args := [d1, d2] }
  | _ => none }
def numReckonsRow : OpenClaim := { program := "ytcinhjfonmjneaa", sum := "2e474f7cb8834c1331fffe6239c96c69cd88da8cffc6a2972c205d488a70505d", func := "touchstone/touchstonelaw.NumReckons", spec := "numReckons", apart := false }
def NumReckonsSaid : Prop := numReckonsRow.holds Try.pinned (OpenSpec.ofChange numReckonsSpec)

/-- ITS FALSE NEIGHBOUR: 'it returns false'. Refute it at one input. -/
def numReckonsWrong : ChangeSpec := { name := "numReckons", fn := fun _ => fun
  | [d1, d2] => { results := [.lit (.bool false)], args := [d1, d2] }
  | _ => none }
def NumReckonsWrongFalsely : Prop := numReckonsRow.holds Try.pinned (OpenSpec.ofChange numReckonsWrong)

/-- 'touchstonelaw.TreeEncodes': WHATEVER THE INPUT: true; the input reads as it did. -/
def treeEncodesSpec : ChangeSpec := { name := "treeEncodes", fn := fun _ => fun
  | [d] => { results := [.lit (.bool true)], args := [d] }
  | _ => none }
def treeEncodesRow : OpenClaim := { program := "ytcinhjfonmjneaa", sum := "2e474f7cb8834c1331fffe6239c96c69cd88da8cffc6a2972c205d488a70505d", func := "touchstone/touchstonelaw.TreeEncodes", spec := "treeEncodes", recurses := true, loops := true, apart := false }
def TreeEncodesSaid : Prop := treeEncodesRow.holds Try.pinned (OpenSpec.ofChange treeEncodesSpec)

/-- ITS FALSE NEIGHBOUR: 'it returns false'. Refute it at one input. -/
def treeEncodesWrong : ChangeSpec := { name := "treeEncodes", fn := fun _ => fun
  | [d] => { results := [.lit (.bool false)], args := [d] }
  | _ => none }
def TreeEncodesWrongFalsely : Prop := treeEncodesRow.holds Try.pinned (OpenSpec.ofChange treeEncodesWrong)

/-- 'touchstonekeep.NumLaws': WHATEVER THE INPUT: true; the input reads as it did. -/
def numLawsSpec : ChangeSpec := { name := "numLaws", fn := fun _ => fun
  | [d1, d2, d3] => { results := [.lit (.bool true)], args := [d1, d2, d3] }
  | _ => none }
def numLawsRow : OpenClaim := { program := "ytcinhjfonmjneaa", sum := "2e474f7cb8834c1331fffe6239c96c69cd88da8cffc6a2972c205d488a70505d", func := "touchstone/touchstonekeep.NumLaws", spec := "numLaws", apart := false }
def NumLawsSaid : Prop := numLawsRow.holds Try.pinned (OpenSpec.ofChange numLawsSpec)

/-- ITS FALSE NEIGHBOUR: 'it returns false'. Refute it at one input. -/
def numLawsWrong : ChangeSpec := { name := "numLaws", fn := fun _ => fun
  | [d1, d2, d3] => { results := [.lit (.bool false)], args := [d1, d2, d3] }
  | _ => none }
def NumLawsWrongFalsely : Prop := numLawsRow.holds Try.pinned (OpenSpec.ofChange numLawsWrong)

/-- 'touchstonekeep.NumBounds': WHATEVER THE INPUT: true; the input reads as it did. -/
def numBoundsSpec : ChangeSpec := { name := "numBounds", fn := fun _ => fun
  | [d1, d2] => { results := [.lit (.bool true)], args := [d1, d2] }
  | _ => none }
def numBoundsRow : OpenClaim := { program := "ytcinhjfonmjneaa", sum := "2e474f7cb8834c1331fffe6239c96c69cd88da8cffc6a2972c205d488a70505d", func := "touchstone/touchstonekeep.NumBounds", spec := "numBounds", apart := false }
def NumBoundsSaid : Prop := numBoundsRow.holds Try.pinned (OpenSpec.ofChange numBoundsSpec)

/-- ITS FALSE NEIGHBOUR: 'it returns false'. Refute it at one input. -/
def numBoundsWrong : ChangeSpec := { name := "numBounds", fn := fun _ => fun
  | [d1, d2] => { results := [.lit (.bool false)], args := [d1, d2] }
  | _ => none }
def NumBoundsWrongFalsely : Prop := numBoundsRow.holds Try.pinned (OpenSpec.ofChange numBoundsWrong)

/-- 'touchstonekeep.KindOrder': WHATEVER THE INPUT: true; the input reads as it did. -/
def kindOrderSpec : ChangeSpec := { name := "kindOrder", fn := fun _ => fun
  | [d] => { results := [.lit (.bool true)], args := [d] }
  | _ => none }
def kindOrderRow : OpenClaim := { program := "ytcinhjfonmjneaa", sum := "2e474f7cb8834c1331fffe6239c96c69cd88da8cffc6a2972c205d488a70505d", func := "touchstone/touchstonekeep.KindOrder", spec := "kindOrder", unfollowed := true, recurses := true, loops := true, apart := false }
def KindOrderSaid : Prop := kindOrderRow.holds Try.pinned (OpenSpec.ofChange kindOrderSpec)

/-- ITS FALSE NEIGHBOUR: 'it returns false'. Refute it at one input. -/
def kindOrderWrong : ChangeSpec := { name := "kindOrder", fn := fun _ => fun
  | [d] => { results := [.lit (.bool false)], args := [d] }
  | _ => none }
def KindOrderWrongFalsely : Prop := kindOrderRow.holds Try.pinned (OpenSpec.ofChange kindOrderWrong)

/-- 'touchstonelaw.KindTells': WHATEVER THE INPUT: true; the input reads as it did. -/
def kindTellsSpec : ChangeSpec := { name := "kindTells", fn := fun _ => fun
  | [d1, d2] => { results := [.lit (.bool true)], args := [d1, d2] }
  | _ => none }
def kindTellsRow : OpenClaim := { program := "ytcinhjfonmjneaa", sum := "2e474f7cb8834c1331fffe6239c96c69cd88da8cffc6a2972c205d488a70505d", func := "touchstone/touchstonelaw.KindTells", spec := "kindTells", unfollowed := true, recurses := true, loops := true, apart := false }
def KindTellsSaid : Prop := kindTellsRow.holds Try.pinned (OpenSpec.ofChange kindTellsSpec)

/-- ITS FALSE NEIGHBOUR: 'it returns false'. Refute it at one input. -/
def kindTellsWrong : ChangeSpec := { name := "kindTells", fn := fun _ => fun
  | [d1, d2] => { results := [.lit (.bool false)], args := [d1, d2] }
  | _ => none }
def KindTellsWrongFalsely : Prop := kindTellsRow.holds Try.pinned (OpenSpec.ofChange kindTellsWrong)

/-- 'touchstonekeep.KindBack': WHATEVER THE INPUT: true; the input reads as it did. -/
def kindBackSpec : ChangeSpec := { name := "kindBack", fn := fun _ => fun
  | [d1, d2] => { results := [.lit (.bool true)], args := [d1, d2] }
  | _ => none }
def kindBackRow : OpenClaim := { program := "ytcinhjfonmjneaa", sum := "2e474f7cb8834c1331fffe6239c96c69cd88da8cffc6a2972c205d488a70505d", func := "touchstone/touchstonekeep.KindBack", spec := "kindBack", unfollowed := true, recurses := true, loops := true, apart := false }
def KindBackSaid : Prop := kindBackRow.holds Try.pinned (OpenSpec.ofChange kindBackSpec)

/-- ITS FALSE NEIGHBOUR: 'it returns false'. Refute it at one input. -/
def kindBackWrong : ChangeSpec := { name := "kindBack", fn := fun _ => fun
  | [d1, d2] => { results := [.lit (.bool false)], args := [d1, d2] }
  | _ => none }
def KindBackWrongFalsely : Prop := kindBackRow.holds Try.pinned (OpenSpec.ofChange kindBackWrong)

/-- 'touchstonelaw.TreeDecodes': WHATEVER THE INPUT: true; the input reads as it did. -/
def treeDecodesSpec : ChangeSpec := { name := "treeDecodes", fn := fun _ => fun
  | [d] => { results := [.lit (.bool true)], args := [d] }
  | _ => none }
def treeDecodesRow : OpenClaim := { program := "ytcinhjfonmjneaa", sum := "2e474f7cb8834c1331fffe6239c96c69cd88da8cffc6a2972c205d488a70505d", func := "touchstone/touchstonelaw.TreeDecodes", spec := "treeDecodes", unfollowed := true, recurses := true, apart := false }
def TreeDecodesSaid : Prop := treeDecodesRow.holds Try.pinned (OpenSpec.ofChange treeDecodesSpec)

/-- ITS FALSE NEIGHBOUR: 'it returns false'. Refute it at one input. -/
def treeDecodesWrong : ChangeSpec := { name := "treeDecodes", fn := fun _ => fun
  | [d] => { results := [.lit (.bool false)], args := [d] }
  | _ => none }
def TreeDecodesWrongFalsely : Prop := treeDecodesRow.holds Try.pinned (OpenSpec.ofChange treeDecodesWrong)

/-- 'touchstonekeep.TreeBack': WHATEVER THE INPUT: true; the input reads as it did. -/
def treeBackSpec : ChangeSpec := { name := "treeBack", fn := fun _ => fun
  | [d] => { results := [.lit (.bool true)], args := [d] }
  | _ => none }
def treeBackRow : OpenClaim := { program := "ytcinhjfonmjneaa", sum := "2e474f7cb8834c1331fffe6239c96c69cd88da8cffc6a2972c205d488a70505d", func := "touchstone/touchstonekeep.TreeBack", spec := "treeBack", recurses := true, loops := true, apart := false }
def TreeBackSaid : Prop := treeBackRow.holds Try.pinned (OpenSpec.ofChange treeBackSpec)

/-- ITS FALSE NEIGHBOUR: 'it returns false'. Refute it at one input. -/
def treeBackWrong : ChangeSpec := { name := "treeBack", fn := fun _ => fun
  | [d] => { results := [.lit (.bool false)], args := [d] }
  | _ => none }
def TreeBackWrongFalsely : Prop := treeBackRow.holds Try.pinned (OpenSpec.ofChange treeBackWrong)

/-- 'touchstonekeep.TreeOnly': WHATEVER THE INPUT: true; the input reads as it did. -/
def treeOnlySpec : ChangeSpec := { name := "treeOnly", fn := fun _ => fun
  | [d] => { results := [.lit (.bool true)], args := [d] }
  | _ => none }
def treeOnlyRow : OpenClaim := { program := "ytcinhjfonmjneaa", sum := "2e474f7cb8834c1331fffe6239c96c69cd88da8cffc6a2972c205d488a70505d", func := "touchstone/touchstonekeep.TreeOnly", spec := "treeOnly", recurses := true, apart := false }
def TreeOnlySaid : Prop := treeOnlyRow.holds Try.pinned (OpenSpec.ofChange treeOnlySpec)

/-- ITS FALSE NEIGHBOUR: 'it returns false'. Refute it at one input. -/
def treeOnlyWrong : ChangeSpec := { name := "treeOnly", fn := fun _ => fun
  | [d] => { results := [.lit (.bool false)], args := [d] }
  | _ => none }
def TreeOnlyWrongFalsely : Prop := treeOnlyRow.holds Try.pinned (OpenSpec.ofChange treeOnlyWrong)

/-- 'touchstonekeep.TreeCut': WHATEVER THE INPUT: true; the input reads as it did. -/
def treeCutSpec : ChangeSpec := { name := "treeCut", fn := fun _ => fun
  | [d1, d2] => { results := [.lit (.bool true)], args := [d1, d2] }
  | _ => none }
def treeCutRow : OpenClaim := { program := "ytcinhjfonmjneaa", sum := "2e474f7cb8834c1331fffe6239c96c69cd88da8cffc6a2972c205d488a70505d", func := "touchstone/touchstonekeep.TreeCut", spec := "treeCut", recurses := true, loops := true, apart := false }
def TreeCutSaid : Prop := treeCutRow.holds Try.pinned (OpenSpec.ofChange treeCutSpec)

/-- ITS FALSE NEIGHBOUR: 'it returns false'. Refute it at one input. -/
def treeCutWrong : ChangeSpec := { name := "treeCut", fn := fun _ => fun
  | [d1, d2] => { results := [.lit (.bool false)], args := [d1, d2] }
  | _ => none }
def TreeCutWrongFalsely : Prop := treeCutRow.holds Try.pinned (OpenSpec.ofChange treeCutWrong)

/-- 'touchstonekeep.ValueOneType': WHATEVER THE INPUT: true; the input reads as it did. -/
def valueOneTypeSpec : ChangeSpec := { name := "valueOneType", fn := fun _ => fun
  | [d1, d2, d3] => { results := [.lit (.bool true)], args := [d1, d2, d3] }
  | _ => none }
def valueOneTypeRow : OpenClaim := { program := "ytcinhjfonmjneaa", sum := "2e474f7cb8834c1331fffe6239c96c69cd88da8cffc6a2972c205d488a70505d", func := "touchstone/touchstonekeep.ValueOneType", spec := "valueOneType", inPlace := ["internal/bytealg.abigen_runtime_cmpstring"], unfollowed := true, recurses := true, loops := true, apart := false }
def ValueOneTypeSaid : Prop := valueOneTypeRow.holds Try.pinned (OpenSpec.ofChange valueOneTypeSpec)

/-- ITS FALSE NEIGHBOUR: 'it returns false'. Refute it at one input. -/
def valueOneTypeWrong : ChangeSpec := { name := "valueOneType", fn := fun _ => fun
  | [d1, d2, d3] => { results := [.lit (.bool false)], args := [d1, d2, d3] }
  | _ => none }
def ValueOneTypeWrongFalsely : Prop := valueOneTypeRow.holds Try.pinned (OpenSpec.ofChange valueOneTypeWrong)

/-- 'touchstonelaw.ValueHas': WHATEVER THE INPUT: true; the input reads as it did. -/
def valueHasSpec : ChangeSpec := { name := "valueHas", fn := fun _ => fun
  | [d1, d2, d3] => { results := [.lit (.bool true)], args := [d1, d2, d3] }
  | _ => none }
def valueHasRow : OpenClaim := { program := "ytcinhjfonmjneaa", sum := "2e474f7cb8834c1331fffe6239c96c69cd88da8cffc6a2972c205d488a70505d", func := "touchstone/touchstonelaw.ValueHas", spec := "valueHas", inPlace := ["internal/bytealg.abigen_runtime_cmpstring"], unfollowed := true, recurses := true, loops := true, apart := false }
def ValueHasSaid : Prop := valueHasRow.holds Try.pinned (OpenSpec.ofChange valueHasSpec)

/-- ITS FALSE NEIGHBOUR: 'it returns false'. Refute it at one input. -/
def valueHasWrong : ChangeSpec := { name := "valueHas", fn := fun _ => fun
  | [d1, d2, d3] => { results := [.lit (.bool false)], args := [d1, d2, d3] }
  | _ => none }
def ValueHasWrongFalsely : Prop := valueHasRow.holds Try.pinned (OpenSpec.ofChange valueHasWrong)

/-- 'touchstonekeep.ValueOrder': WHATEVER THE INPUT: true; the input reads as it did. -/
def valueOrderSpec : ChangeSpec := { name := "valueOrder", fn := fun _ => fun
  | [d1, d2, d3, d4] => { results := [.lit (.bool true)], args := [d1, d2, d3, d4] }
  | _ => none }
def valueOrderRow : OpenClaim := { program := "ytcinhjfonmjneaa", sum := "2e474f7cb8834c1331fffe6239c96c69cd88da8cffc6a2972c205d488a70505d", func := "touchstone/touchstonekeep.ValueOrder", spec := "valueOrder", inPlace := ["internal/bytealg.abigen_runtime_cmpstring"], unfollowed := true, recurses := true, loops := true, apart := false }
def ValueOrderSaid : Prop := valueOrderRow.holds Try.pinned (OpenSpec.ofChange valueOrderSpec)

/-- ITS FALSE NEIGHBOUR: 'it returns false'. Refute it at one input. -/
def valueOrderWrong : ChangeSpec := { name := "valueOrder", fn := fun _ => fun
  | [d1, d2, d3, d4] => { results := [.lit (.bool false)], args := [d1, d2, d3, d4] }
  | _ => none }
def ValueOrderWrongFalsely : Prop := valueOrderRow.holds Try.pinned (OpenSpec.ofChange valueOrderWrong)

/-- 'touchstonelaw.ValueTells': WHATEVER THE INPUT: true; the input reads as it did. -/
def valueTellsSpec : ChangeSpec := { name := "valueTells", fn := fun _ => fun
  | [d1, d2] => { results := [.lit (.bool true)], args := [d1, d2] }
  | _ => none }
def valueTellsRow : OpenClaim := { program := "ytcinhjfonmjneaa", sum := "2e474f7cb8834c1331fffe6239c96c69cd88da8cffc6a2972c205d488a70505d", func := "touchstone/touchstonelaw.ValueTells", spec := "valueTells", inPlace := ["internal/bytealg.abigen_runtime_cmpstring"], unfollowed := true, recurses := true, loops := true, apart := false }
def ValueTellsSaid : Prop := valueTellsRow.holds Try.pinned (OpenSpec.ofChange valueTellsSpec)

/-- ITS FALSE NEIGHBOUR: 'it returns false'. Refute it at one input. -/
def valueTellsWrong : ChangeSpec := { name := "valueTells", fn := fun _ => fun
  | [d1, d2] => { results := [.lit (.bool false)], args := [d1, d2] }
  | _ => none }
def ValueTellsWrongFalsely : Prop := valueTellsRow.holds Try.pinned (OpenSpec.ofChange valueTellsWrong)

/-- 'touchstonelaw.ValueParses': WHATEVER THE INPUT: true; the input reads as it did. -/
def valueParsesSpec : ChangeSpec := { name := "valueParses", fn := fun _ => fun
  | [d1, d2, d3] => { results := [.lit (.bool true)], args := [d1, d2, d3] }
  | _ => none }
def valueParsesRow : OpenClaim := { program := "ytcinhjfonmjneaa", sum := "2e474f7cb8834c1331fffe6239c96c69cd88da8cffc6a2972c205d488a70505d", func := "touchstone/touchstonelaw.ValueParses", spec := "valueParses", inPlace := ["internal/bytealg.abigen_runtime_cmpstring"], unfollowed := true, recurses := true, loops := true, apart := false }
def ValueParsesSaid : Prop := valueParsesRow.holds Try.pinned (OpenSpec.ofChange valueParsesSpec)

/-- ITS FALSE NEIGHBOUR: 'it returns false'. Refute it at one input. -/
def valueParsesWrong : ChangeSpec := { name := "valueParses", fn := fun _ => fun
  | [d1, d2, d3] => { results := [.lit (.bool false)], args := [d1, d2, d3] }
  | _ => none }
def ValueParsesWrongFalsely : Prop := valueParsesRow.holds Try.pinned (OpenSpec.ofChange valueParsesWrong)

/-- 'touchstonekeep.ValueBack': WHATEVER THE INPUT: true; the input reads as it did. -/
def valueBackSpec : ChangeSpec := { name := "valueBack", fn := fun _ => fun
  | [d1, d2] => { results := [.lit (.bool true)], args := [d1, d2] }
  | _ => none }
def valueBackRow : OpenClaim := { program := "ytcinhjfonmjneaa", sum := "2e474f7cb8834c1331fffe6239c96c69cd88da8cffc6a2972c205d488a70505d", func := "touchstone/touchstonekeep.ValueBack", spec := "valueBack", inPlace := ["internal/bytealg.abigen_runtime_cmpstring"], unfollowed := true, recurses := true, loops := true, apart := false }
def ValueBackSaid : Prop := valueBackRow.holds Try.pinned (OpenSpec.ofChange valueBackSpec)

/-- ITS FALSE NEIGHBOUR: 'it returns false'. Refute it at one input. -/
def valueBackWrong : ChangeSpec := { name := "valueBack", fn := fun _ => fun
  | [d1, d2] => { results := [.lit (.bool false)], args := [d1, d2] }
  | _ => none }
def ValueBackWrongFalsely : Prop := valueBackRow.holds Try.pinned (OpenSpec.ofChange valueBackWrong)

/-- 'touchstonekeep.ValueOnly': WHATEVER THE INPUT: true; the input reads as it did. -/
def valueOnlySpec : ChangeSpec := { name := "valueOnly", fn := fun _ => fun
  | [d1, d2, d3] => { results := [.lit (.bool true)], args := [d1, d2, d3] }
  | _ => none }
def valueOnlyRow : OpenClaim := { program := "ytcinhjfonmjneaa", sum := "2e474f7cb8834c1331fffe6239c96c69cd88da8cffc6a2972c205d488a70505d", func := "touchstone/touchstonekeep.ValueOnly", spec := "valueOnly", inPlace := ["internal/bytealg.abigen_runtime_cmpstring"], unfollowed := true, recurses := true, loops := true, apart := false }
def ValueOnlySaid : Prop := valueOnlyRow.holds Try.pinned (OpenSpec.ofChange valueOnlySpec)

/-- ITS FALSE NEIGHBOUR: 'it returns false'. Refute it at one input. -/
def valueOnlyWrong : ChangeSpec := { name := "valueOnly", fn := fun _ => fun
  | [d1, d2, d3] => { results := [.lit (.bool false)], args := [d1, d2, d3] }
  | _ => none }
def ValueOnlyWrongFalsely : Prop := valueOnlyRow.holds Try.pinned (OpenSpec.ofChange valueOnlyWrong)

/- THE SECOND FORM. 'bulk': how many values and letters a reading holds, each counted each time it is reached (what is shared counts as often as it is met; a slice's spare places count too). A statement '..UptoSaid' is the law's where the arguments, and the package variables that the reading takes, are together of bulk at most 1048576: NARROWER than '..Said'. Prove '..Said' where nothing that the law and all that it calls make is longer than what came in: it says more and counts as full. Else prove '..UptoSaid'. A law counts once. -/
mutual
def uptoBulk {H : Type} : DataW H → Nat
  | .lit (.string bytes) => bytes.length + 1
  | .lit _ => 1
  | .nil => 1
  | .ptr d => uptoBulk d + 1
  | .slice elems spare => uptoBulkAll elems + uptoBulkAll spare + 1
  | .agg parts => uptoBulkAll parts + 1
  | .iface _ d => uptoBulk d + 1
  | .map entries => uptoBulkEntries entries + 1
  | .held _ => 1
def uptoBulkAll {H : Type} : List (DataW H) → Nat
  | [] => 0
  | d :: r => uptoBulk d + uptoBulkAll r
def uptoBulkEntries {H : Type} : List (Lit × DataW H) → Nat
  | [] => 0
  | x :: r => uptoBulkEntry x + uptoBulkEntries r
def uptoBulkEntry {H : Type} : Lit × DataW H → Nat
  | (.string bytes, d) => bytes.length + uptoBulk d + 1
  | (_, d) => uptoBulk d + 1
 end
def uptoSmall : (H : Type) → List (DataW H) → Bool := fun _ ds => decide (uptoBulkAll ds ≤ 1048576)
def OpenSpec.upto (s : _root_.Go.ChangeSpec) : _root_.Go.OpenSpec := { _root_.Go.OpenSpec.ofChange s with cond := some uptoSmall }

/-- 'touchstonelaw.Names', WHERE WHAT IT READS IS OF BULK AT MOST 1048576: true; the input reads as it did. -/
def namesUptoRow : OpenClaim := { program := "ytcinhjfonmjneaa", sum := "2e474f7cb8834c1331fffe6239c96c69cd88da8cffc6a2972c205d488a70505d", func := "touchstone/touchstonelaw.Names", spec := "names", apart := false, narrowed := true }
def NamesUptoSaid : Prop := namesUptoRow.holds Try.pinned (OpenSpec.upto namesSpec)

/-- 'touchstonekeep.NumDivides', WHERE WHAT IT READS IS OF BULK AT MOST 1048576: true; the input reads as it did. -/
def numDividesUptoRow : OpenClaim := { program := "ytcinhjfonmjneaa", sum := "2e474f7cb8834c1331fffe6239c96c69cd88da8cffc6a2972c205d488a70505d", func := "touchstone/touchstonekeep.NumDivides", spec := "numDivides", apart := false, narrowed := true }
def NumDividesUptoSaid : Prop := numDividesUptoRow.holds Try.pinned (OpenSpec.upto numDividesSpec)

/-- 'touchstonelaw.KindParses', WHERE WHAT IT READS IS OF BULK AT MOST 1048576: true; the input reads as it did. -/
def kindParsesUptoRow : OpenClaim := { program := "ytcinhjfonmjneaa", sum := "2e474f7cb8834c1331fffe6239c96c69cd88da8cffc6a2972c205d488a70505d", func := "touchstone/touchstonelaw.KindParses", spec := "kindParses", unfollowed := true, recurses := true, loops := true, apart := false, narrowed := true }
def KindParsesUptoSaid : Prop := kindParsesUptoRow.holds Try.pinned (OpenSpec.upto kindParsesSpec)

/-- 'touchstonelaw.NumReckons', WHERE WHAT IT READS IS OF BULK AT MOST 1048576: true; the input reads as it did. -/
def numReckonsUptoRow : OpenClaim := { program := "ytcinhjfonmjneaa", sum := "2e474f7cb8834c1331fffe6239c96c69cd88da8cffc6a2972c205d488a70505d", func := "touchstone/touchstonelaw.NumReckons", spec := "numReckons", apart := false, narrowed := true }
def NumReckonsUptoSaid : Prop := numReckonsUptoRow.holds Try.pinned (OpenSpec.upto numReckonsSpec)

/-- 'touchstonelaw.TreeEncodes', WHERE WHAT IT READS IS OF BULK AT MOST 1048576: true; the input reads as it did. -/
def treeEncodesUptoRow : OpenClaim := { program := "ytcinhjfonmjneaa", sum := "2e474f7cb8834c1331fffe6239c96c69cd88da8cffc6a2972c205d488a70505d", func := "touchstone/touchstonelaw.TreeEncodes", spec := "treeEncodes", recurses := true, loops := true, apart := false, narrowed := true }
def TreeEncodesUptoSaid : Prop := treeEncodesUptoRow.holds Try.pinned (OpenSpec.upto treeEncodesSpec)

/-- 'touchstonekeep.NumLaws', WHERE WHAT IT READS IS OF BULK AT MOST 1048576: true; the input reads as it did. -/
def numLawsUptoRow : OpenClaim := { program := "ytcinhjfonmjneaa", sum := "2e474f7cb8834c1331fffe6239c96c69cd88da8cffc6a2972c205d488a70505d", func := "touchstone/touchstonekeep.NumLaws", spec := "numLaws", apart := false, narrowed := true }
def NumLawsUptoSaid : Prop := numLawsUptoRow.holds Try.pinned (OpenSpec.upto numLawsSpec)

/-- 'touchstonekeep.NumBounds', WHERE WHAT IT READS IS OF BULK AT MOST 1048576: true; the input reads as it did. -/
def numBoundsUptoRow : OpenClaim := { program := "ytcinhjfonmjneaa", sum := "2e474f7cb8834c1331fffe6239c96c69cd88da8cffc6a2972c205d488a70505d", func := "touchstone/touchstonekeep.NumBounds", spec := "numBounds", apart := false, narrowed := true }
def NumBoundsUptoSaid : Prop := numBoundsUptoRow.holds Try.pinned (OpenSpec.upto numBoundsSpec)

/-- 'touchstonekeep.KindOrder', WHERE WHAT IT READS IS OF BULK AT MOST 1048576: true; the input reads as it did. -/
def kindOrderUptoRow : OpenClaim := { program := "ytcinhjfonmjneaa", sum := "2e474f7cb8834c1331fffe6239c96c69cd88da8cffc6a2972c205d488a70505d", func := "touchstone/touchstonekeep.KindOrder", spec := "kindOrder", unfollowed := true, recurses := true, loops := true, apart := false, narrowed := true }
def KindOrderUptoSaid : Prop := kindOrderUptoRow.holds Try.pinned (OpenSpec.upto kindOrderSpec)

/-- 'touchstonelaw.KindTells', WHERE WHAT IT READS IS OF BULK AT MOST 1048576: true; the input reads as it did. -/
def kindTellsUptoRow : OpenClaim := { program := "ytcinhjfonmjneaa", sum := "2e474f7cb8834c1331fffe6239c96c69cd88da8cffc6a2972c205d488a70505d", func := "touchstone/touchstonelaw.KindTells", spec := "kindTells", unfollowed := true, recurses := true, loops := true, apart := false, narrowed := true }
def KindTellsUptoSaid : Prop := kindTellsUptoRow.holds Try.pinned (OpenSpec.upto kindTellsSpec)

/-- 'touchstonekeep.KindBack', WHERE WHAT IT READS IS OF BULK AT MOST 1048576: true; the input reads as it did. -/
def kindBackUptoRow : OpenClaim := { program := "ytcinhjfonmjneaa", sum := "2e474f7cb8834c1331fffe6239c96c69cd88da8cffc6a2972c205d488a70505d", func := "touchstone/touchstonekeep.KindBack", spec := "kindBack", unfollowed := true, recurses := true, loops := true, apart := false, narrowed := true }
def KindBackUptoSaid : Prop := kindBackUptoRow.holds Try.pinned (OpenSpec.upto kindBackSpec)

/-- 'touchstonelaw.TreeDecodes', WHERE WHAT IT READS IS OF BULK AT MOST 1048576: true; the input reads as it did. -/
def treeDecodesUptoRow : OpenClaim := { program := "ytcinhjfonmjneaa", sum := "2e474f7cb8834c1331fffe6239c96c69cd88da8cffc6a2972c205d488a70505d", func := "touchstone/touchstonelaw.TreeDecodes", spec := "treeDecodes", unfollowed := true, recurses := true, apart := false, narrowed := true }
def TreeDecodesUptoSaid : Prop := treeDecodesUptoRow.holds Try.pinned (OpenSpec.upto treeDecodesSpec)

/-- 'touchstonekeep.TreeBack', WHERE WHAT IT READS IS OF BULK AT MOST 1048576: true; the input reads as it did. -/
def treeBackUptoRow : OpenClaim := { program := "ytcinhjfonmjneaa", sum := "2e474f7cb8834c1331fffe6239c96c69cd88da8cffc6a2972c205d488a70505d", func := "touchstone/touchstonekeep.TreeBack", spec := "treeBack", recurses := true, loops := true, apart := false, narrowed := true }
def TreeBackUptoSaid : Prop := treeBackUptoRow.holds Try.pinned (OpenSpec.upto treeBackSpec)

/-- 'touchstonekeep.TreeOnly', WHERE WHAT IT READS IS OF BULK AT MOST 1048576: true; the input reads as it did. -/
def treeOnlyUptoRow : OpenClaim := { program := "ytcinhjfonmjneaa", sum := "2e474f7cb8834c1331fffe6239c96c69cd88da8cffc6a2972c205d488a70505d", func := "touchstone/touchstonekeep.TreeOnly", spec := "treeOnly", recurses := true, apart := false, narrowed := true }
def TreeOnlyUptoSaid : Prop := treeOnlyUptoRow.holds Try.pinned (OpenSpec.upto treeOnlySpec)

/-- 'touchstonekeep.TreeCut', WHERE WHAT IT READS IS OF BULK AT MOST 1048576: true; the input reads as it did. -/
def treeCutUptoRow : OpenClaim := { program := "ytcinhjfonmjneaa", sum := "2e474f7cb8834c1331fffe6239c96c69cd88da8cffc6a2972c205d488a70505d", func := "touchstone/touchstonekeep.TreeCut", spec := "treeCut", recurses := true, loops := true, apart := false, narrowed := true }
def TreeCutUptoSaid : Prop := treeCutUptoRow.holds Try.pinned (OpenSpec.upto treeCutSpec)

/-- 'touchstonekeep.ValueOneType', WHERE WHAT IT READS IS OF BULK AT MOST 1048576: true; the input reads as it did. -/
def valueOneTypeUptoRow : OpenClaim := { program := "ytcinhjfonmjneaa", sum := "2e474f7cb8834c1331fffe6239c96c69cd88da8cffc6a2972c205d488a70505d", func := "touchstone/touchstonekeep.ValueOneType", spec := "valueOneType", inPlace := ["internal/bytealg.abigen_runtime_cmpstring"], unfollowed := true, recurses := true, loops := true, apart := false, narrowed := true }
def ValueOneTypeUptoSaid : Prop := valueOneTypeUptoRow.holds Try.pinned (OpenSpec.upto valueOneTypeSpec)

/-- 'touchstonelaw.ValueHas', WHERE WHAT IT READS IS OF BULK AT MOST 1048576: true; the input reads as it did. -/
def valueHasUptoRow : OpenClaim := { program := "ytcinhjfonmjneaa", sum := "2e474f7cb8834c1331fffe6239c96c69cd88da8cffc6a2972c205d488a70505d", func := "touchstone/touchstonelaw.ValueHas", spec := "valueHas", inPlace := ["internal/bytealg.abigen_runtime_cmpstring"], unfollowed := true, recurses := true, loops := true, apart := false, narrowed := true }
def ValueHasUptoSaid : Prop := valueHasUptoRow.holds Try.pinned (OpenSpec.upto valueHasSpec)

/-- 'touchstonekeep.ValueOrder', WHERE WHAT IT READS IS OF BULK AT MOST 1048576: true; the input reads as it did. -/
def valueOrderUptoRow : OpenClaim := { program := "ytcinhjfonmjneaa", sum := "2e474f7cb8834c1331fffe6239c96c69cd88da8cffc6a2972c205d488a70505d", func := "touchstone/touchstonekeep.ValueOrder", spec := "valueOrder", inPlace := ["internal/bytealg.abigen_runtime_cmpstring"], unfollowed := true, recurses := true, loops := true, apart := false, narrowed := true }
def ValueOrderUptoSaid : Prop := valueOrderUptoRow.holds Try.pinned (OpenSpec.upto valueOrderSpec)

/-- 'touchstonelaw.ValueTells', WHERE WHAT IT READS IS OF BULK AT MOST 1048576: true; the input reads as it did. -/
def valueTellsUptoRow : OpenClaim := { program := "ytcinhjfonmjneaa", sum := "2e474f7cb8834c1331fffe6239c96c69cd88da8cffc6a2972c205d488a70505d", func := "touchstone/touchstonelaw.ValueTells", spec := "valueTells", inPlace := ["internal/bytealg.abigen_runtime_cmpstring"], unfollowed := true, recurses := true, loops := true, apart := false, narrowed := true }
def ValueTellsUptoSaid : Prop := valueTellsUptoRow.holds Try.pinned (OpenSpec.upto valueTellsSpec)

/-- 'touchstonelaw.ValueParses', WHERE WHAT IT READS IS OF BULK AT MOST 1048576: true; the input reads as it did. -/
def valueParsesUptoRow : OpenClaim := { program := "ytcinhjfonmjneaa", sum := "2e474f7cb8834c1331fffe6239c96c69cd88da8cffc6a2972c205d488a70505d", func := "touchstone/touchstonelaw.ValueParses", spec := "valueParses", inPlace := ["internal/bytealg.abigen_runtime_cmpstring"], unfollowed := true, recurses := true, loops := true, apart := false, narrowed := true }
def ValueParsesUptoSaid : Prop := valueParsesUptoRow.holds Try.pinned (OpenSpec.upto valueParsesSpec)

/-- 'touchstonekeep.ValueBack', WHERE WHAT IT READS IS OF BULK AT MOST 1048576: true; the input reads as it did. -/
def valueBackUptoRow : OpenClaim := { program := "ytcinhjfonmjneaa", sum := "2e474f7cb8834c1331fffe6239c96c69cd88da8cffc6a2972c205d488a70505d", func := "touchstone/touchstonekeep.ValueBack", spec := "valueBack", inPlace := ["internal/bytealg.abigen_runtime_cmpstring"], unfollowed := true, recurses := true, loops := true, apart := false, narrowed := true }
def ValueBackUptoSaid : Prop := valueBackUptoRow.holds Try.pinned (OpenSpec.upto valueBackSpec)

/-- 'touchstonekeep.ValueOnly', WHERE WHAT IT READS IS OF BULK AT MOST 1048576: true; the input reads as it did. -/
def valueOnlyUptoRow : OpenClaim := { program := "ytcinhjfonmjneaa", sum := "2e474f7cb8834c1331fffe6239c96c69cd88da8cffc6a2972c205d488a70505d", func := "touchstone/touchstonekeep.ValueOnly", spec := "valueOnly", inPlace := ["internal/bytealg.abigen_runtime_cmpstring"], unfollowed := true, recurses := true, loops := true, apart := false, narrowed := true }
def ValueOnlyUptoSaid : Prop := valueOnlyUptoRow.holds Try.pinned (OpenSpec.upto valueOnlySpec)

end Rows
end Go.Proofs.Ytcinhjfonmjneaa
