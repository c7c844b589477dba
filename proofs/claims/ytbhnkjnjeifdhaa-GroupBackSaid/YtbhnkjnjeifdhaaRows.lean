/-
  No cell of these rows narrows 'for every input' (looked for: loops, veiled, ifaces, maps, wideKeys, modest, calm, conditions, laid).
  DERIVED. THE GIVEN ROWS OF THIS SEAT. 22 by the template 'for every input the law returns true; each argument reads behind the call as it read before'; 0 by the template 'total and deterministic' (their statements: YtbhnkjnjeifdhaaTotals.lean).
  GIVEN WITH THE SEED: the statements are not yours to turn. If you find one false, say at which input.
  Laid BY PROGRAM, IN A SANDBOX (cutbox-rows.mjs): the forced cells as the released guide's own fill.sh prints them over the translation fdb6224958d6ff49… (all of the seat's roots in one cut). By AI agents, Wed Nov 11 2026. No macro, syntax, notation, axiom, sorry.
-/
import Derived.Test.YtbhnkjnjeifdhaaChecked
import GoSem.Claim
import GoSem.ClaimJoined
import GoSem.ClaimMapViews
import Derived.JoinedTies
import Derived.KernelRfl
namespace Go.Proofs.Ytbhnkjnjeifdhaa
/- THE CELL 'sum', in the pinned program and in every row, IS THE sha256 OF THE DUMP (.gsa) THAT YtbhnkjnjeifdhaaProg.lean LOADS. Nothing in Lean hashes anything: it is a label: what it is worth is what the hold of that sum in a sandbox is worth. -/
noncomputable def Try.pinned : Pinned := { name := "ytbhnkjnjeifdhaa", sum := "fdb6224958d6ff497522c99bfb16255247666b9603998235337ef682a00a53c5", checked := Try.checked }
namespace Rows
def none {H : Type} : Left H := { results := [], args := [] }

/-- 'siltlaw05.SummaryCodes': WHATEVER THE INPUT: true; the input reads as it did. -/
def summaryCodesSpec : ChangeSpec := { name := "summaryCodes", fn := fun _ => fun
  | [d1, d2] => { results := [.lit (.bool true)], args := [d1, d2] }
  | _ => none }
def summaryCodesRow : OpenClaim := { program := "ytbhnkjnjeifdhaa", sum := "fdb6224958d6ff497522c99bfb16255247666b9603998235337ef682a00a53c5", func := "silt/siltlaw05.SummaryCodes", spec := "summaryCodes", apart := false }
def SummaryCodesSaid : Prop := summaryCodesRow.holds Try.pinned (OpenSpec.ofChange summaryCodesSpec)

/-- ITS FALSE NEIGHBOUR: 'it returns false'. Refute it at one input. -/
def summaryCodesWrong : ChangeSpec := { name := "summaryCodes", fn := fun _ => fun
  | [d1, d2] => { results := [.lit (.bool false)], args := [d1, d2] }
  | _ => none }
def SummaryCodesWrongFalsely : Prop := summaryCodesRow.holds Try.pinned (OpenSpec.ofChange summaryCodesWrong)

/-- 'siltlaw05.SummaryBack': WHATEVER THE INPUT: true; the input reads as it did. -/
def summaryBackSpec : ChangeSpec := { name := "summaryBack", fn := fun _ => fun
  | [d1, d2, d3] => { results := [.lit (.bool true)], args := [d1, d2, d3] }
  | _ => none }
def summaryBackRow : OpenClaim := { program := "ytbhnkjnjeifdhaa", sum := "fdb6224958d6ff497522c99bfb16255247666b9603998235337ef682a00a53c5", func := "silt/siltlaw05.SummaryBack", spec := "summaryBack", apart := false }
def SummaryBackSaid : Prop := summaryBackRow.holds Try.pinned (OpenSpec.ofChange summaryBackSpec)

/-- ITS FALSE NEIGHBOUR: 'it returns false'. Refute it at one input. -/
def summaryBackWrong : ChangeSpec := { name := "summaryBack", fn := fun _ => fun
  | [d1, d2, d3] => { results := [.lit (.bool false)], args := [d1, d2, d3] }
  | _ => none }
def SummaryBackWrongFalsely : Prop := summaryBackRow.holds Try.pinned (OpenSpec.ofChange summaryBackWrong)

/-- 'siltlaw05.SummaryPlaces': WHATEVER THE INPUT: true; the input reads as it did. -/
def summaryPlacesSpec : ChangeSpec := { name := "summaryPlaces", fn := fun _ => fun
  | [d1, d2] => { results := [.lit (.bool true)], args := [d1, d2] }
  | _ => none }
def summaryPlacesRow : OpenClaim := { program := "ytbhnkjnjeifdhaa", sum := "fdb6224958d6ff497522c99bfb16255247666b9603998235337ef682a00a53c5", func := "silt/siltlaw05.SummaryPlaces", spec := "summaryPlaces", apart := false }
def SummaryPlacesSaid : Prop := summaryPlacesRow.holds Try.pinned (OpenSpec.ofChange summaryPlacesSpec)

/-- ITS FALSE NEIGHBOUR: 'it returns false'. Refute it at one input. -/
def summaryPlacesWrong : ChangeSpec := { name := "summaryPlaces", fn := fun _ => fun
  | [d1, d2] => { results := [.lit (.bool false)], args := [d1, d2] }
  | _ => none }
def SummaryPlacesWrongFalsely : Prop := summaryPlacesRow.holds Try.pinned (OpenSpec.ofChange summaryPlacesWrong)

/-- 'siltlaw05.SummaryMarks': WHATEVER THE INPUT: true; the input reads as it did. -/
def summaryMarksSpec : ChangeSpec := { name := "summaryMarks", fn := fun _ => fun
  | [d1, d2] => { results := [.lit (.bool true)], args := [d1, d2] }
  | _ => none }
def summaryMarksRow : OpenClaim := { program := "ytbhnkjnjeifdhaa", sum := "fdb6224958d6ff497522c99bfb16255247666b9603998235337ef682a00a53c5", func := "silt/siltlaw05.SummaryMarks", spec := "summaryMarks", apart := false }
def SummaryMarksSaid : Prop := summaryMarksRow.holds Try.pinned (OpenSpec.ofChange summaryMarksSpec)

/-- ITS FALSE NEIGHBOUR: 'it returns false'. Refute it at one input. -/
def summaryMarksWrong : ChangeSpec := { name := "summaryMarks", fn := fun _ => fun
  | [d1, d2] => { results := [.lit (.bool false)], args := [d1, d2] }
  | _ => none }
def SummaryMarksWrongFalsely : Prop := summaryMarksRow.holds Try.pinned (OpenSpec.ofChange summaryMarksWrong)

/-- 'siltlaw02.DevPlays': WHATEVER THE INPUT: true; the input reads as it did. -/
def devPlaysSpec : ChangeSpec := { name := "devPlays", fn := fun _ => fun
  | [d1, d2] => { results := [.lit (.bool true)], args := [d1, d2] }
  | _ => none }
def devPlaysRow : OpenClaim := { program := "ytbhnkjnjeifdhaa", sum := "fdb6224958d6ff497522c99bfb16255247666b9603998235337ef682a00a53c5", func := "silt/siltlaw02.DevPlays", spec := "devPlays", apart := false }
def DevPlaysSaid : Prop := devPlaysRow.holds Try.pinned (OpenSpec.ofChange devPlaysSpec)

/-- ITS FALSE NEIGHBOUR: 'it returns false'. Refute it at one input. -/
def devPlaysWrong : ChangeSpec := { name := "devPlays", fn := fun _ => fun
  | [d1, d2] => { results := [.lit (.bool false)], args := [d1, d2] }
  | _ => none }
def DevPlaysWrongFalsely : Prop := devPlaysRow.holds Try.pinned (OpenSpec.ofChange devPlaysWrong)

/-- 'siltlaw02.DevSafe': WHATEVER THE INPUT: true; the input reads as it did. -/
def devSafeSpec : ChangeSpec := { name := "devSafe", fn := fun _ => fun
  | [d1, d2, d3] => { results := [.lit (.bool true)], args := [d1, d2, d3] }
  | _ => none }
def devSafeRow : OpenClaim := { program := "ytbhnkjnjeifdhaa", sum := "fdb6224958d6ff497522c99bfb16255247666b9603998235337ef682a00a53c5", func := "silt/siltlaw02.DevSafe", spec := "devSafe", apart := false }
def DevSafeSaid : Prop := devSafeRow.holds Try.pinned (OpenSpec.ofChange devSafeSpec)

/-- ITS FALSE NEIGHBOUR: 'it returns false'. Refute it at one input. -/
def devSafeWrong : ChangeSpec := { name := "devSafe", fn := fun _ => fun
  | [d1, d2, d3] => { results := [.lit (.bool false)], args := [d1, d2, d3] }
  | _ => none }
def DevSafeWrongFalsely : Prop := devSafeRow.holds Try.pinned (OpenSpec.ofChange devSafeWrong)

/-- 'siltlaw02.DevFails': WHATEVER THE INPUT: true; the input reads as it did. -/
def devFailsSpec : ChangeSpec := { name := "devFails", fn := fun _ => fun
  | [d1, d2] => { results := [.lit (.bool true)], args := [d1, d2] }
  | _ => none }
def devFailsRow : OpenClaim := { program := "ytbhnkjnjeifdhaa", sum := "fdb6224958d6ff497522c99bfb16255247666b9603998235337ef682a00a53c5", func := "silt/siltlaw02.DevFails", spec := "devFails", apart := false }
def DevFailsSaid : Prop := devFailsRow.holds Try.pinned (OpenSpec.ofChange devFailsSpec)

/-- ITS FALSE NEIGHBOUR: 'it returns false'. Refute it at one input. -/
def devFailsWrong : ChangeSpec := { name := "devFails", fn := fun _ => fun
  | [d1, d2] => { results := [.lit (.bool false)], args := [d1, d2] }
  | _ => none }
def DevFailsWrongFalsely : Prop := devFailsRow.holds Try.pinned (OpenSpec.ofChange devFailsWrong)

/-- 'siltlaw02.DevNone': WHATEVER THE INPUT: true; the input reads as it did. -/
def devNoneSpec : ChangeSpec := { name := "devNone", fn := fun _ => fun
  | [d] => { results := [.lit (.bool true)], args := [d] }
  | _ => none }
def devNoneRow : OpenClaim := { program := "ytbhnkjnjeifdhaa", sum := "fdb6224958d6ff497522c99bfb16255247666b9603998235337ef682a00a53c5", func := "silt/siltlaw02.DevNone", spec := "devNone", apart := false }
def DevNoneSaid : Prop := devNoneRow.holds Try.pinned (OpenSpec.ofChange devNoneSpec)

/-- ITS FALSE NEIGHBOUR: 'it returns false'. Refute it at one input. -/
def devNoneWrong : ChangeSpec := { name := "devNone", fn := fun _ => fun
  | [d] => { results := [.lit (.bool false)], args := [d] }
  | _ => none }
def DevNoneWrongFalsely : Prop := devNoneRow.holds Try.pinned (OpenSpec.ofChange devNoneWrong)

/-- 'siltlaw02.DevReads': WHATEVER THE INPUT: true; the input reads as it did. -/
def devReadsSpec : ChangeSpec := { name := "devReads", fn := fun _ => fun
  | [d] => { results := [.lit (.bool true)], args := [d] }
  | _ => none }
def devReadsRow : OpenClaim := { program := "ytbhnkjnjeifdhaa", sum := "fdb6224958d6ff497522c99bfb16255247666b9603998235337ef682a00a53c5", func := "silt/siltlaw02.DevReads", spec := "devReads", apart := false }
def DevReadsSaid : Prop := devReadsRow.holds Try.pinned (OpenSpec.ofChange devReadsSpec)

/-- ITS FALSE NEIGHBOUR: 'it returns false'. Refute it at one input. -/
def devReadsWrong : ChangeSpec := { name := "devReads", fn := fun _ => fun
  | [d] => { results := [.lit (.bool false)], args := [d] }
  | _ => none }
def DevReadsWrongFalsely : Prop := devReadsRow.holds Try.pinned (OpenSpec.ofChange devReadsWrong)

/-- 'siltlaw02.DevOrder': WHATEVER THE INPUT: true; the input reads as it did. -/
def devOrderSpec : ChangeSpec := { name := "devOrder", fn := fun _ => fun
  | [d1, d2, d3] => { results := [.lit (.bool true)], args := [d1, d2, d3] }
  | _ => none }
def devOrderRow : OpenClaim := { program := "ytbhnkjnjeifdhaa", sum := "fdb6224958d6ff497522c99bfb16255247666b9603998235337ef682a00a53c5", func := "silt/siltlaw02.DevOrder", spec := "devOrder", apart := false }
def DevOrderSaid : Prop := devOrderRow.holds Try.pinned (OpenSpec.ofChange devOrderSpec)

/-- ITS FALSE NEIGHBOUR: 'it returns false'. Refute it at one input. -/
def devOrderWrong : ChangeSpec := { name := "devOrder", fn := fun _ => fun
  | [d1, d2, d3] => { results := [.lit (.bool false)], args := [d1, d2, d3] }
  | _ => none }
def DevOrderWrongFalsely : Prop := devOrderRow.holds Try.pinned (OpenSpec.ofChange devOrderWrong)

/-- 'siltlaw02.DevCounts': WHATEVER THE INPUT: true; the input reads as it did. -/
def devCountsSpec : ChangeSpec := { name := "devCounts", fn := fun _ => fun
  | [d] => { results := [.lit (.bool true)], args := [d] }
  | _ => none }
def devCountsRow : OpenClaim := { program := "ytbhnkjnjeifdhaa", sum := "fdb6224958d6ff497522c99bfb16255247666b9603998235337ef682a00a53c5", func := "silt/siltlaw02.DevCounts", spec := "devCounts", apart := false }
def DevCountsSaid : Prop := devCountsRow.holds Try.pinned (OpenSpec.ofChange devCountsSpec)

/-- ITS FALSE NEIGHBOUR: 'it returns false'. Refute it at one input. -/
def devCountsWrong : ChangeSpec := { name := "devCounts", fn := fun _ => fun
  | [d] => { results := [.lit (.bool false)], args := [d] }
  | _ => none }
def DevCountsWrongFalsely : Prop := devCountsRow.holds Try.pinned (OpenSpec.ofChange devCountsWrong)

/-- 'siltlaw04.BlockCodes': WHATEVER THE INPUT: true; the input reads as it did. -/
def blockCodesSpec : ChangeSpec := { name := "blockCodes", fn := fun _ => fun
  | [d1, d2, d3] => { results := [.lit (.bool true)], args := [d1, d2, d3] }
  | _ => none }
def blockCodesRow : OpenClaim := { program := "ytbhnkjnjeifdhaa", sum := "fdb6224958d6ff497522c99bfb16255247666b9603998235337ef682a00a53c5", func := "silt/siltlaw04.BlockCodes", spec := "blockCodes", unfollowed := true, recurses := true, apart := false }
def BlockCodesSaid : Prop := blockCodesRow.holds Try.pinned (OpenSpec.ofChange blockCodesSpec)

/-- ITS FALSE NEIGHBOUR: 'it returns false'. Refute it at one input. -/
def blockCodesWrong : ChangeSpec := { name := "blockCodes", fn := fun _ => fun
  | [d1, d2, d3] => { results := [.lit (.bool false)], args := [d1, d2, d3] }
  | _ => none }
def BlockCodesWrongFalsely : Prop := blockCodesRow.holds Try.pinned (OpenSpec.ofChange blockCodesWrong)

/-- 'siltlaw04.BlockBack': WHATEVER THE INPUT: true; the input reads as it did. -/
def blockBackSpec : ChangeSpec := { name := "blockBack", fn := fun _ => fun
  | [d1, d2, d3] => { results := [.lit (.bool true)], args := [d1, d2, d3] }
  | _ => none }
def blockBackRow : OpenClaim := { program := "ytbhnkjnjeifdhaa", sum := "fdb6224958d6ff497522c99bfb16255247666b9603998235337ef682a00a53c5", func := "silt/siltlaw04.BlockBack", spec := "blockBack", unfollowed := true, recurses := true, apart := false }
def BlockBackSaid : Prop := blockBackRow.holds Try.pinned (OpenSpec.ofChange blockBackSpec)

/-- ITS FALSE NEIGHBOUR: 'it returns false'. Refute it at one input. -/
def blockBackWrong : ChangeSpec := { name := "blockBack", fn := fun _ => fun
  | [d1, d2, d3] => { results := [.lit (.bool false)], args := [d1, d2, d3] }
  | _ => none }
def BlockBackWrongFalsely : Prop := blockBackRow.holds Try.pinned (OpenSpec.ofChange blockBackWrong)

/-- 'siltlaw04.BlockReads': WHATEVER THE INPUT: true; the input reads as it did. -/
def blockReadsSpec : ChangeSpec := { name := "blockReads", fn := fun _ => fun
  | [d1, d2, d3] => { results := [.lit (.bool true)], args := [d1, d2, d3] }
  | _ => none }
def blockReadsRow : OpenClaim := { program := "ytbhnkjnjeifdhaa", sum := "fdb6224958d6ff497522c99bfb16255247666b9603998235337ef682a00a53c5", func := "silt/siltlaw04.BlockReads", spec := "blockReads", unfollowed := true, recurses := true, apart := false }
def BlockReadsSaid : Prop := blockReadsRow.holds Try.pinned (OpenSpec.ofChange blockReadsSpec)

/-- ITS FALSE NEIGHBOUR: 'it returns false'. Refute it at one input. -/
def blockReadsWrong : ChangeSpec := { name := "blockReads", fn := fun _ => fun
  | [d1, d2, d3] => { results := [.lit (.bool false)], args := [d1, d2, d3] }
  | _ => none }
def BlockReadsWrongFalsely : Prop := blockReadsRow.holds Try.pinned (OpenSpec.ofChange blockReadsWrong)

/-- 'siltlaw04.BlockPlaces': WHATEVER THE INPUT: true; the input reads as it did. -/
def blockPlacesSpec : ChangeSpec := { name := "blockPlaces", fn := fun _ => fun
  | [d1, d2] => { results := [.lit (.bool true)], args := [d1, d2] }
  | _ => none }
def blockPlacesRow : OpenClaim := { program := "ytbhnkjnjeifdhaa", sum := "fdb6224958d6ff497522c99bfb16255247666b9603998235337ef682a00a53c5", func := "silt/siltlaw04.BlockPlaces", spec := "blockPlaces", unfollowed := true, recurses := true, apart := false }
def BlockPlacesSaid : Prop := blockPlacesRow.holds Try.pinned (OpenSpec.ofChange blockPlacesSpec)

/-- ITS FALSE NEIGHBOUR: 'it returns false'. Refute it at one input. -/
def blockPlacesWrong : ChangeSpec := { name := "blockPlaces", fn := fun _ => fun
  | [d1, d2] => { results := [.lit (.bool false)], args := [d1, d2] }
  | _ => none }
def BlockPlacesWrongFalsely : Prop := blockPlacesRow.holds Try.pinned (OpenSpec.ofChange blockPlacesWrong)

/-- 'siltlaw04.BlockNumbers': WHATEVER THE INPUT: true; the input reads as it did. -/
def blockNumbersSpec : ChangeSpec := { name := "blockNumbers", fn := fun _ => fun
  | [d1, d2] => { results := [.lit (.bool true)], args := [d1, d2] }
  | _ => none }
def blockNumbersRow : OpenClaim := { program := "ytbhnkjnjeifdhaa", sum := "fdb6224958d6ff497522c99bfb16255247666b9603998235337ef682a00a53c5", func := "silt/siltlaw04.BlockNumbers", spec := "blockNumbers", unfollowed := true, recurses := true, apart := false }
def BlockNumbersSaid : Prop := blockNumbersRow.holds Try.pinned (OpenSpec.ofChange blockNumbersSpec)

/-- ITS FALSE NEIGHBOUR: 'it returns false'. Refute it at one input. -/
def blockNumbersWrong : ChangeSpec := { name := "blockNumbers", fn := fun _ => fun
  | [d1, d2] => { results := [.lit (.bool false)], args := [d1, d2] }
  | _ => none }
def BlockNumbersWrongFalsely : Prop := blockNumbersRow.holds Try.pinned (OpenSpec.ofChange blockNumbersWrong)

/-- 'siltlaw13.GroupTells': WHATEVER THE INPUT: true; the input reads as it did. -/
def groupTellsSpec : ChangeSpec := { name := "groupTells", fn := fun _ => fun
  | [d1, d2, d3] => { results := [.lit (.bool true)], args := [d1, d2, d3] }
  | _ => none }
def groupTellsRow : OpenClaim := { program := "ytbhnkjnjeifdhaa", sum := "fdb6224958d6ff497522c99bfb16255247666b9603998235337ef682a00a53c5", func := "silt/siltlaw13.GroupTells", spec := "groupTells", unfollowed := true, recurses := true, apart := false }
def GroupTellsSaid : Prop := groupTellsRow.holds Try.pinned (OpenSpec.ofChange groupTellsSpec)

/-- ITS FALSE NEIGHBOUR: 'it returns false'. Refute it at one input. -/
def groupTellsWrong : ChangeSpec := { name := "groupTells", fn := fun _ => fun
  | [d1, d2, d3] => { results := [.lit (.bool false)], args := [d1, d2, d3] }
  | _ => none }
def GroupTellsWrongFalsely : Prop := groupTellsRow.holds Try.pinned (OpenSpec.ofChange groupTellsWrong)

/-- 'siltlaw13.GroupBack': WHATEVER THE INPUT: true; the input reads as it did. -/
def groupBackSpec : ChangeSpec := { name := "groupBack", fn := fun _ => fun
  | [d1, d2, d3] => { results := [.lit (.bool true)], args := [d1, d2, d3] }
  | _ => none }
def groupBackRow : OpenClaim := { program := "ytbhnkjnjeifdhaa", sum := "fdb6224958d6ff497522c99bfb16255247666b9603998235337ef682a00a53c5", func := "silt/siltlaw13.GroupBack", spec := "groupBack", unfollowed := true, recurses := true, apart := false }
def GroupBackSaid : Prop := groupBackRow.holds Try.pinned (OpenSpec.ofChange groupBackSpec)

/-- ITS FALSE NEIGHBOUR: 'it returns false'. Refute it at one input. -/
def groupBackWrong : ChangeSpec := { name := "groupBack", fn := fun _ => fun
  | [d1, d2, d3] => { results := [.lit (.bool false)], args := [d1, d2, d3] }
  | _ => none }
def GroupBackWrongFalsely : Prop := groupBackRow.holds Try.pinned (OpenSpec.ofChange groupBackWrong)

/-- 'siltlaw13.GroupSizes': WHATEVER THE INPUT: true; the input reads as it did. -/
def groupSizesSpec : ChangeSpec := { name := "groupSizes", fn := fun _ => fun
  | [d1, d2] => { results := [.lit (.bool true)], args := [d1, d2] }
  | _ => none }
def groupSizesRow : OpenClaim := { program := "ytbhnkjnjeifdhaa", sum := "fdb6224958d6ff497522c99bfb16255247666b9603998235337ef682a00a53c5", func := "silt/siltlaw13.GroupSizes", spec := "groupSizes", unfollowed := true, recurses := true, apart := false }
def GroupSizesSaid : Prop := groupSizesRow.holds Try.pinned (OpenSpec.ofChange groupSizesSpec)

/-- ITS FALSE NEIGHBOUR: 'it returns false'. Refute it at one input. -/
def groupSizesWrong : ChangeSpec := { name := "groupSizes", fn := fun _ => fun
  | [d1, d2] => { results := [.lit (.bool false)], args := [d1, d2] }
  | _ => none }
def GroupSizesWrongFalsely : Prop := groupSizesRow.holds Try.pinned (OpenSpec.ofChange groupSizesWrong)

/-- 'siltlaw13.GroupRow': WHATEVER THE INPUT: true; the input reads as it did. -/
def groupRowSpec : ChangeSpec := { name := "groupRow", fn := fun _ => fun
  | [d1, d2, d3] => { results := [.lit (.bool true)], args := [d1, d2, d3] }
  | _ => none }
def groupRowRow : OpenClaim := { program := "ytbhnkjnjeifdhaa", sum := "fdb6224958d6ff497522c99bfb16255247666b9603998235337ef682a00a53c5", func := "silt/siltlaw13.GroupRow", spec := "groupRow", unfollowed := true, recurses := true, apart := false }
def GroupRowSaid : Prop := groupRowRow.holds Try.pinned (OpenSpec.ofChange groupRowSpec)

/-- ITS FALSE NEIGHBOUR: 'it returns false'. Refute it at one input. -/
def groupRowWrong : ChangeSpec := { name := "groupRow", fn := fun _ => fun
  | [d1, d2, d3] => { results := [.lit (.bool false)], args := [d1, d2, d3] }
  | _ => none }
def GroupRowWrongFalsely : Prop := groupRowRow.holds Try.pinned (OpenSpec.ofChange groupRowWrong)

/-- 'siltlaw13.GroupMarks': WHATEVER THE INPUT: true; the input reads as it did. -/
def groupMarksSpec : ChangeSpec := { name := "groupMarks", fn := fun _ => fun
  | [d1, d2, d3] => { results := [.lit (.bool true)], args := [d1, d2, d3] }
  | _ => none }
def groupMarksRow : OpenClaim := { program := "ytbhnkjnjeifdhaa", sum := "fdb6224958d6ff497522c99bfb16255247666b9603998235337ef682a00a53c5", func := "silt/siltlaw13.GroupMarks", spec := "groupMarks", unfollowed := true, recurses := true, apart := false }
def GroupMarksSaid : Prop := groupMarksRow.holds Try.pinned (OpenSpec.ofChange groupMarksSpec)

/-- ITS FALSE NEIGHBOUR: 'it returns false'. Refute it at one input. -/
def groupMarksWrong : ChangeSpec := { name := "groupMarks", fn := fun _ => fun
  | [d1, d2, d3] => { results := [.lit (.bool false)], args := [d1, d2, d3] }
  | _ => none }
def GroupMarksWrongFalsely : Prop := groupMarksRow.holds Try.pinned (OpenSpec.ofChange groupMarksWrong)

/-- 'siltlaw13.GroupNumbers': WHATEVER THE INPUT: true; the input reads as it did. -/
def groupNumbersSpec : ChangeSpec := { name := "groupNumbers", fn := fun _ => fun
  | [d1, d2] => { results := [.lit (.bool true)], args := [d1, d2] }
  | _ => none }
def groupNumbersRow : OpenClaim := { program := "ytbhnkjnjeifdhaa", sum := "fdb6224958d6ff497522c99bfb16255247666b9603998235337ef682a00a53c5", func := "silt/siltlaw13.GroupNumbers", spec := "groupNumbers", unfollowed := true, recurses := true, apart := false }
def GroupNumbersSaid : Prop := groupNumbersRow.holds Try.pinned (OpenSpec.ofChange groupNumbersSpec)

/-- ITS FALSE NEIGHBOUR: 'it returns false'. Refute it at one input. -/
def groupNumbersWrong : ChangeSpec := { name := "groupNumbers", fn := fun _ => fun
  | [d1, d2] => { results := [.lit (.bool false)], args := [d1, d2] }
  | _ => none }
def GroupNumbersWrongFalsely : Prop := groupNumbersRow.holds Try.pinned (OpenSpec.ofChange groupNumbersWrong)

/- THE SECOND FORM. 'bulk': how many values and letters a reading holds, each counted each time it is reached (what is shared counts as often as it is met; a slice's spare places count too). A statement '..UptoSaid' is the law's where the arguments, and the package variables that the reading takes, are together of bulk at most 1048576: NARROWER than '..Said'. Prove '..Said' where nothing that the law and all that it calls make is longer than what came in: it says more and counts as full. Else prove '..UptoSaid'. A law counts once. -/
mutual
def uptoBulk {H : Type} : DataW H → Nat
  | .lit (.string bytes) => bytes.length + 1
  | .lit _ => 1
  | .nil => 1
  | .ptr d => uptoBulk d + 1
  | .slice elems spare => uptoBulkAll elems + uptoBulkAll spare + 1
  | .agg parts => uptoBulkAll parts + 1
  | .iface _ d => uptoBulk d + 1
  | .map entries => uptoBulkEntries entries + 1
  | .held _ => 1
def uptoBulkAll {H : Type} : List (DataW H) → Nat
  | [] => 0
  | d :: r => uptoBulk d + uptoBulkAll r
def uptoBulkEntries {H : Type} : List (Lit × DataW H) → Nat
  | [] => 0
  | x :: r => uptoBulkEntry x + uptoBulkEntries r
def uptoBulkEntry {H : Type} : Lit × DataW H → Nat
  | (.string bytes, d) => bytes.length + uptoBulk d + 1
  | (_, d) => uptoBulk d + 1
 end
def uptoSmall : (H : Type) → List (DataW H) → Bool := fun _ ds => decide (uptoBulkAll ds ≤ 1048576)
def OpenSpec.upto (s : _root_.Go.ChangeSpec) : _root_.Go.OpenSpec := { _root_.Go.OpenSpec.ofChange s with cond := some uptoSmall }

/-- 'siltlaw05.SummaryCodes', WHERE WHAT IT READS IS OF BULK AT MOST 1048576: true; the input reads as it did. -/
def summaryCodesUptoRow : OpenClaim := { program := "ytbhnkjnjeifdhaa", sum := "fdb6224958d6ff497522c99bfb16255247666b9603998235337ef682a00a53c5", func := "silt/siltlaw05.SummaryCodes", spec := "summaryCodes", apart := false, narrowed := true }
def SummaryCodesUptoSaid : Prop := summaryCodesUptoRow.holds Try.pinned (OpenSpec.upto summaryCodesSpec)

/-- 'siltlaw05.SummaryBack', WHERE WHAT IT READS IS OF BULK AT MOST 1048576: true; the input reads as it did. -/
def summaryBackUptoRow : OpenClaim := { program := "ytbhnkjnjeifdhaa", sum := "fdb6224958d6ff497522c99bfb16255247666b9603998235337ef682a00a53c5", func := "silt/siltlaw05.SummaryBack", spec := "summaryBack", apart := false, narrowed := true }
def SummaryBackUptoSaid : Prop := summaryBackUptoRow.holds Try.pinned (OpenSpec.upto summaryBackSpec)

/-- 'siltlaw05.SummaryPlaces', WHERE WHAT IT READS IS OF BULK AT MOST 1048576: true; the input reads as it did. -/
def summaryPlacesUptoRow : OpenClaim := { program := "ytbhnkjnjeifdhaa", sum := "fdb6224958d6ff497522c99bfb16255247666b9603998235337ef682a00a53c5", func := "silt/siltlaw05.SummaryPlaces", spec := "summaryPlaces", apart := false, narrowed := true }
def SummaryPlacesUptoSaid : Prop := summaryPlacesUptoRow.holds Try.pinned (OpenSpec.upto summaryPlacesSpec)

/-- 'siltlaw05.SummaryMarks', WHERE WHAT IT READS IS OF BULK AT MOST 1048576: true; the input reads as it did. -/
def summaryMarksUptoRow : OpenClaim := { program := "ytbhnkjnjeifdhaa", sum := "fdb6224958d6ff497522c99bfb16255247666b9603998235337ef682a00a53c5", func := "silt/siltlaw05.SummaryMarks", spec := "summaryMarks", apart := false, narrowed := true }
def SummaryMarksUptoSaid : Prop := summaryMarksUptoRow.holds Try.pinned (OpenSpec.upto summaryMarksSpec)

/-- 'siltlaw02.DevPlays', WHERE WHAT IT READS IS OF BULK AT MOST 1048576: true; the input reads as it did. -/
def devPlaysUptoRow : OpenClaim := { program := "ytbhnkjnjeifdhaa", sum := "fdb6224958d6ff497522c99bfb16255247666b9603998235337ef682a00a53c5", func := "silt/siltlaw02.DevPlays", spec := "devPlays", apart := false, narrowed := true }
def DevPlaysUptoSaid : Prop := devPlaysUptoRow.holds Try.pinned (OpenSpec.upto devPlaysSpec)

/-- 'siltlaw02.DevSafe', WHERE WHAT IT READS IS OF BULK AT MOST 1048576: true; the input reads as it did. -/
def devSafeUptoRow : OpenClaim := { program := "ytbhnkjnjeifdhaa", sum := "fdb6224958d6ff497522c99bfb16255247666b9603998235337ef682a00a53c5", func := "silt/siltlaw02.DevSafe", spec := "devSafe", apart := false, narrowed := true }
def DevSafeUptoSaid : Prop := devSafeUptoRow.holds Try.pinned (OpenSpec.upto devSafeSpec)

/-- 'siltlaw02.DevFails', WHERE WHAT IT READS IS OF BULK AT MOST 1048576: true; the input reads as it did. -/
def devFailsUptoRow : OpenClaim := { program := "ytbhnkjnjeifdhaa", sum := "fdb6224958d6ff497522c99bfb16255247666b9603998235337ef682a00a53c5", func := "silt/siltlaw02.DevFails", spec := "devFails", apart := false, narrowed := true }
def DevFailsUptoSaid : Prop := devFailsUptoRow.holds Try.pinned (OpenSpec.upto devFailsSpec)

/-- 'siltlaw02.DevNone', WHERE WHAT IT READS IS OF BULK AT MOST 1048576: true; the input reads as it did. -/
def devNoneUptoRow : OpenClaim := { program := "ytbhnkjnjeifdhaa", sum := "fdb6224958d6ff497522c99bfb16255247666b9603998235337ef682a00a53c5", func := "silt/siltlaw02.DevNone", spec := "devNone", apart := false, narrowed := true }
def DevNoneUptoSaid : Prop := devNoneUptoRow.holds Try.pinned (OpenSpec.upto devNoneSpec)

/-- 'siltlaw02.DevReads', WHERE WHAT IT READS IS OF BULK AT MOST 1048576: true; the input reads as it did. -/
def devReadsUptoRow : OpenClaim := { program := "ytbhnkjnjeifdhaa", sum := "fdb6224958d6ff497522c99bfb16255247666b9603998235337ef682a00a53c5", func := "silt/siltlaw02.DevReads", spec := "devReads", apart := false, narrowed := true }
def DevReadsUptoSaid : Prop := devReadsUptoRow.holds Try.pinned (OpenSpec.upto devReadsSpec)

/-- 'siltlaw02.DevOrder', WHERE WHAT IT READS IS OF BULK AT MOST 1048576: true; the input reads as it did. -/
def devOrderUptoRow : OpenClaim := { program := "ytbhnkjnjeifdhaa", sum := "fdb6224958d6ff497522c99bfb16255247666b9603998235337ef682a00a53c5", func := "silt/siltlaw02.DevOrder", spec := "devOrder", apart := false, narrowed := true }
def DevOrderUptoSaid : Prop := devOrderUptoRow.holds Try.pinned (OpenSpec.upto devOrderSpec)

/-- 'siltlaw02.DevCounts', WHERE WHAT IT READS IS OF BULK AT MOST 1048576: true; the input reads as it did. -/
def devCountsUptoRow : OpenClaim := { program := "ytbhnkjnjeifdhaa", sum := "fdb6224958d6ff497522c99bfb16255247666b9603998235337ef682a00a53c5", func := "silt/siltlaw02.DevCounts", spec := "devCounts", apart := false, narrowed := true }
def DevCountsUptoSaid : Prop := devCountsUptoRow.holds Try.pinned (OpenSpec.upto devCountsSpec)

/-- 'siltlaw04.BlockCodes', WHERE WHAT IT READS IS OF BULK AT MOST 1048576: true; the input reads as it did. -/
def blockCodesUptoRow : OpenClaim := { program := "ytbhnkjnjeifdhaa", sum := "fdb6224958d6ff497522c99bfb16255247666b9603998235337ef682a00a53c5", func := "silt/siltlaw04.BlockCodes", spec := "blockCodes", unfollowed := true, recurses := true, apart := false, narrowed := true }
def BlockCodesUptoSaid : Prop := blockCodesUptoRow.holds Try.pinned (OpenSpec.upto blockCodesSpec)

/-- 'siltlaw04.BlockBack', WHERE WHAT IT READS IS OF BULK AT MOST 1048576: true; the input reads as it did. -/
def blockBackUptoRow : OpenClaim := { program := "ytbhnkjnjeifdhaa", sum := "fdb6224958d6ff497522c99bfb16255247666b9603998235337ef682a00a53c5", func := "silt/siltlaw04.BlockBack", spec := "blockBack", unfollowed := true, recurses := true, apart := false, narrowed := true }
def BlockBackUptoSaid : Prop := blockBackUptoRow.holds Try.pinned (OpenSpec.upto blockBackSpec)

/-- 'siltlaw04.BlockReads', WHERE WHAT IT READS IS OF BULK AT MOST 1048576: true; the input reads as it did. -/
def blockReadsUptoRow : OpenClaim := { program := "ytbhnkjnjeifdhaa", sum := "fdb6224958d6ff497522c99bfb16255247666b9603998235337ef682a00a53c5", func := "silt/siltlaw04.BlockReads", spec := "blockReads", unfollowed := true, recurses := true, apart := false, narrowed := true }
def BlockReadsUptoSaid : Prop := blockReadsUptoRow.holds Try.pinned (OpenSpec.upto blockReadsSpec)

/-- 'siltlaw04.BlockPlaces', WHERE WHAT IT READS IS OF BULK AT MOST 1048576: true; the input reads as it did. -/
def blockPlacesUptoRow : OpenClaim := { program := "ytbhnkjnjeifdhaa", sum := "fdb6224958d6ff497522c99bfb16255247666b9603998235337ef682a00a53c5", func := "silt/siltlaw04.BlockPlaces", spec := "blockPlaces", unfollowed := true, recurses := true, apart := false, narrowed := true }
def BlockPlacesUptoSaid : Prop := blockPlacesUptoRow.holds Try.pinned (OpenSpec.upto blockPlacesSpec)

/-- 'siltlaw04.BlockNumbers', WHERE WHAT IT READS IS OF BULK AT MOST 1048576: true; the input reads as it did. -/
def blockNumbersUptoRow : OpenClaim := { program := "ytbhnkjnjeifdhaa", sum := "fdb6224958d6ff497522c99bfb16255247666b9603998235337ef682a00a53c5", func := "silt/siltlaw04.BlockNumbers", spec := "blockNumbers", unfollowed := true, recurses := true, apart := false, narrowed := true }
def BlockNumbersUptoSaid : Prop := blockNumbersUptoRow.holds Try.pinned (OpenSpec.upto blockNumbersSpec)

/-- 'siltlaw13.GroupTells', WHERE WHAT IT READS IS OF BULK AT MOST 1048576: true; the input reads as it did. -/
def groupTellsUptoRow : OpenClaim := { program := "ytbhnkjnjeifdhaa", sum := "fdb6224958d6ff497522c99bfb16255247666b9603998235337ef682a00a53c5", func := "silt/siltlaw13.GroupTells", spec := "groupTells", unfollowed := true, recurses := true, apart := false, narrowed := true }
def GroupTellsUptoSaid : Prop := groupTellsUptoRow.holds Try.pinned (OpenSpec.upto groupTellsSpec)

/-- 'siltlaw13.GroupBack', WHERE WHAT IT READS IS OF BULK AT MOST 1048576: true; the input reads as it did. -/
def groupBackUptoRow : OpenClaim := { program := "ytbhnkjnjeifdhaa", sum := "fdb6224958d6ff497522c99bfb16255247666b9603998235337ef682a00a53c5", func := "silt/siltlaw13.GroupBack", spec := "groupBack", unfollowed := true, recurses := true, apart := false, narrowed := true }
def GroupBackUptoSaid : Prop := groupBackUptoRow.holds Try.pinned (OpenSpec.upto groupBackSpec)

/-- 'siltlaw13.GroupSizes', WHERE WHAT IT READS IS OF BULK AT MOST 1048576: true; the input reads as it did. -/
def groupSizesUptoRow : OpenClaim := { program := "ytbhnkjnjeifdhaa", sum := "fdb6224958d6ff497522c99bfb16255247666b9603998235337ef682a00a53c5", func := "silt/siltlaw13.GroupSizes", spec := "groupSizes", unfollowed := true, recurses := true, apart := false, narrowed := true }
def GroupSizesUptoSaid : Prop := groupSizesUptoRow.holds Try.pinned (OpenSpec.upto groupSizesSpec)

/-- 'siltlaw13.GroupRow', WHERE WHAT IT READS IS OF BULK AT MOST 1048576: true; the input reads as it did. -/
def groupRowUptoRow : OpenClaim := { program := "ytbhnkjnjeifdhaa", sum := "fdb6224958d6ff497522c99bfb16255247666b9603998235337ef682a00a53c5", func := "silt/siltlaw13.GroupRow", spec := "groupRow", unfollowed := true, recurses := true, apart := false, narrowed := true }
def GroupRowUptoSaid : Prop := groupRowUptoRow.holds Try.pinned (OpenSpec.upto groupRowSpec)

/-- 'siltlaw13.GroupMarks', WHERE WHAT IT READS IS OF BULK AT MOST 1048576: true; the input reads as it did. -/
def groupMarksUptoRow : OpenClaim := { program := "ytbhnkjnjeifdhaa", sum := "fdb6224958d6ff497522c99bfb16255247666b9603998235337ef682a00a53c5", func := "silt/siltlaw13.GroupMarks", spec := "groupMarks", unfollowed := true, recurses := true, apart := false, narrowed := true }
def GroupMarksUptoSaid : Prop := groupMarksUptoRow.holds Try.pinned (OpenSpec.upto groupMarksSpec)

/-- 'siltlaw13.GroupNumbers', WHERE WHAT IT READS IS OF BULK AT MOST 1048576: true; the input reads as it did. -/
def groupNumbersUptoRow : OpenClaim := { program := "ytbhnkjnjeifdhaa", sum := "fdb6224958d6ff497522c99bfb16255247666b9603998235337ef682a00a53c5", func := "silt/siltlaw13.GroupNumbers", spec := "groupNumbers", unfollowed := true, recurses := true, apart := false, narrowed := true }
def GroupNumbersUptoSaid : Prop := groupNumbersUptoRow.holds Try.pinned (OpenSpec.upto groupNumbersSpec)

end Rows
end Go.Proofs.Ytbhnkjnjeifdhaa
