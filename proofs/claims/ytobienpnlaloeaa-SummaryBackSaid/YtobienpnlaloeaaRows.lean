/-
  No cell of these rows narrows 'for every input' (looked for: loops, veiled, ifaces, maps, wideKeys, modest, calm, conditions, laid).
  DERIVED. THE GIVEN ROWS OF THIS SEAT. 4 by the template 'for every input the law returns true; each argument reads behind the call as it read before'; 0 by the template 'total and deterministic' (their statements: YtobienpnlaloeaaTotals.lean).
  GIVEN WITH THE SEED: the statements are not yours to turn. If you find one false, say at which input.
  Laid BY PROGRAM, IN A SANDBOX (cutbox-rows.mjs): the forced cells as the released guide's own fill.sh prints them over the translation 646301c619a55743… (all of the seat's roots in one cut). By AI agents, Wed Nov 11 2026. No macro, syntax, notation, axiom, sorry.
-/
import Derived.Test.YtobienpnlaloeaaChecked
import GoSem.Claim
import GoSem.ClaimJoined
import GoSem.ClaimMapViews
import Derived.JoinedTies
import Derived.KernelRfl
namespace Go.Proofs.Ytobienpnlaloeaa
/- THE CELL 'sum', in the pinned program and in every row, IS THE sha256 OF THE DUMP (.gsa) THAT YtobienpnlaloeaaProg.lean LOADS. Nothing in Lean hashes anything: it is a label: what it is worth is what the hold of that sum in a sandbox is worth. -/
noncomputable def Try.pinned : Pinned := { name := "ytobienpnlaloeaa", sum := "646301c619a55743fad7bd9cc50ed46089f3a5d12d7241b044e1dda4f0cd2d08", checked := Try.checked }
namespace Rows
def none {H : Type} : Left H := { results := [], args := [] }

/-- 'siltlaw05.SummaryCodes': WHATEVER THE INPUT: true; the input reads as it did. -/
def summaryCodesSpec : ChangeSpec := { name := "summaryCodes", fn := fun _ => fun
  | [d1, d2] => { results := [.lit (.bool true)], args := [d1, d2] }
  | _ => none }
def summaryCodesRow : OpenClaim := { program := "ytobienpnlaloeaa", sum := "646301c619a55743fad7bd9cc50ed46089f3a5d12d7241b044e1dda4f0cd2d08", func := "silt/siltlaw05.SummaryCodes", spec := "summaryCodes", apart := false }
def SummaryCodesSaid : Prop := summaryCodesRow.holds Try.pinned (OpenSpec.ofChange summaryCodesSpec)

/-- ITS FALSE NEIGHBOUR: 'it returns false'. Refute it at one input. -/
def summaryCodesWrong : ChangeSpec := { name := "summaryCodes", fn := fun _ => fun
  | [d1, d2] => { results := [.lit (.bool false)], args := [d1, d2] }
  | _ => none }
def SummaryCodesWrongFalsely : Prop := summaryCodesRow.holds Try.pinned (OpenSpec.ofChange summaryCodesWrong)

/-- 'siltlaw05.SummaryBack': WHATEVER THE INPUT: true; the input reads as it did. -/
def summaryBackSpec : ChangeSpec := { name := "summaryBack", fn := fun _ => fun
  | [d1, d2, d3] => { results := [.lit (.bool true)], args := [d1, d2, d3] }
  | _ => none }
def summaryBackRow : OpenClaim := { program := "ytobienpnlaloeaa", sum := "646301c619a55743fad7bd9cc50ed46089f3a5d12d7241b044e1dda4f0cd2d08", func := "silt/siltlaw05.SummaryBack", spec := "summaryBack", apart := false }
def SummaryBackSaid : Prop := summaryBackRow.holds Try.pinned (OpenSpec.ofChange summaryBackSpec)

/-- ITS FALSE NEIGHBOUR: 'it returns false'. Refute it at one input. -/
def summaryBackWrong : ChangeSpec := { name := "summaryBack", fn := fun _ => fun
  | [d1, d2, d3] => { results := [.lit (.bool false)], args := [d1, d2, d3] }
  | _ => none }
def SummaryBackWrongFalsely : Prop := summaryBackRow.holds Try.pinned (OpenSpec.ofChange summaryBackWrong)

/-- 'siltlaw05.SummaryPlaces': WHATEVER THE INPUT: true; the input reads as it did. -/
def summaryPlacesSpec : ChangeSpec := { name := "summaryPlaces", fn := fun _ => fun
  | [d1, d2] => { results := [.lit (.bool true)], args := [d1, d2] }
  | _ => none }
def summaryPlacesRow : OpenClaim := { program := "ytobienpnlaloeaa", sum := "646301c619a55743fad7bd9cc50ed46089f3a5d12d7241b044e1dda4f0cd2d08", func := "silt/siltlaw05.SummaryPlaces", spec := "summaryPlaces", apart := false }
def SummaryPlacesSaid : Prop := summaryPlacesRow.holds Try.pinned (OpenSpec.ofChange summaryPlacesSpec)

/-- ITS FALSE NEIGHBOUR: 'it returns false'. Refute it at one input. -/
def summaryPlacesWrong : ChangeSpec := { name := "summaryPlaces", fn := fun _ => fun
  | [d1, d2] => { results := [.lit (.bool false)], args := [d1, d2] }
  | _ => none }
def SummaryPlacesWrongFalsely : Prop := summaryPlacesRow.holds Try.pinned (OpenSpec.ofChange summaryPlacesWrong)

/-- 'siltlaw05.SummaryMarks': WHATEVER THE INPUT: true; the input reads as it did. -/
def summaryMarksSpec : ChangeSpec := { name := "summaryMarks", fn := fun _ => fun
  | [d1, d2] => { results := [.lit (.bool true)], args := [d1, d2] }
  | _ => none }
def summaryMarksRow : OpenClaim := { program := "ytobienpnlaloeaa", sum := "646301c619a55743fad7bd9cc50ed46089f3a5d12d7241b044e1dda4f0cd2d08", func := "silt/siltlaw05.SummaryMarks", spec := "summaryMarks", apart := false }
def SummaryMarksSaid : Prop := summaryMarksRow.holds Try.pinned (OpenSpec.ofChange summaryMarksSpec)

/-- ITS FALSE NEIGHBOUR: 'it returns false'. Refute it at one input. -/
def summaryMarksWrong : ChangeSpec := { name := "summaryMarks", fn := fun _ => fun
  | [d1, d2] => { results := [.lit (.bool false)], args := [d1, d2] }
  | _ => none }
def SummaryMarksWrongFalsely : Prop := summaryMarksRow.holds Try.pinned (OpenSpec.ofChange summaryMarksWrong)

/- THE SECOND FORM. 'bulk': how many values and letters a reading holds, each counted each time it is reached (what is shared counts as often as it is met; a slice's spare places count too). A statement '..UptoSaid' is the law's where the arguments, and the package variables that the reading takes, are together of bulk at most 1048576: NARROWER than '..Said'. Prove '..Said' where nothing that the law and all that it calls make is longer than what came in: it says more and counts as full. Else prove '..UptoSaid'. A law counts once. -/
mutual
def uptoBulk {H : Type} : DataW H → Nat
  | .lit (.string bytes) => bytes.length + 1
  | .lit _ => 1
  | .nil => 1
  | .ptr d => uptoBulk d + 1
  | .slice elems spare => uptoBulkAll elems + uptoBulkAll spare + 1
  | .agg parts => uptoBulkAll parts + 1
  | .iface _ d => uptoBulk d + 1
  | .map entries => uptoBulkEntries entries + 1
  | .held _ => 1
def uptoBulkAll {H : Type} : List (DataW H) → Nat
  | [] => 0
  | d :: r => uptoBulk d + uptoBulkAll r
def uptoBulkEntries {H : Type} : List (Lit × DataW H) → Nat
  | [] => 0
  | x :: r => uptoBulkEntry x + uptoBulkEntries r
def uptoBulkEntry {H : Type} : Lit × DataW H → Nat
  | (.string bytes, d) => bytes.length + uptoBulk d + 1
  | (_, d) => uptoBulk d + 1
 end
def uptoSmall : (H : Type) → List (DataW H) → Bool := fun _ ds => decide (uptoBulkAll ds ≤ 1048576)
def OpenSpec.upto (s : _root_.Go.ChangeSpec) : _root_.Go.OpenSpec := { _root_.Go.OpenSpec.ofChange s with cond := some uptoSmall }

/-- 'siltlaw05.SummaryCodes', WHERE WHAT IT READS IS OF BULK AT MOST 1048576: true; the input reads as it did. -/
def summaryCodesUptoRow : OpenClaim := { program := "ytobienpnlaloeaa", sum := "646301c619a55743fad7bd9cc50ed46089f3a5d12d7241b044e1dda4f0cd2d08", func := "silt/siltlaw05.SummaryCodes", spec := "summaryCodes", apart := false, narrowed := true }
def SummaryCodesUptoSaid : Prop := summaryCodesUptoRow.holds Try.pinned (OpenSpec.upto summaryCodesSpec)

/-- 'siltlaw05.SummaryBack', WHERE WHAT IT READS IS OF BULK AT MOST 1048576: true; the input reads as it did. -/
def summaryBackUptoRow : OpenClaim := { program := "ytobienpnlaloeaa", sum := "646301c619a55743fad7bd9cc50ed46089f3a5d12d7241b044e1dda4f0cd2d08", func := "silt/siltlaw05.SummaryBack", spec := "summaryBack", apart := false, narrowed := true }
def SummaryBackUptoSaid : Prop := summaryBackUptoRow.holds Try.pinned (OpenSpec.upto summaryBackSpec)

/-- 'siltlaw05.SummaryPlaces', WHERE WHAT IT READS IS OF BULK AT MOST 1048576: true; the input reads as it did. -/
def summaryPlacesUptoRow : OpenClaim := { program := "ytobienpnlaloeaa", sum := "646301c619a55743fad7bd9cc50ed46089f3a5d12d7241b044e1dda4f0cd2d08", func := "silt/siltlaw05.SummaryPlaces", spec := "summaryPlaces", apart := false, narrowed := true }
def SummaryPlacesUptoSaid : Prop := summaryPlacesUptoRow.holds Try.pinned (OpenSpec.upto summaryPlacesSpec)

/-- 'siltlaw05.SummaryMarks', WHERE WHAT IT READS IS OF BULK AT MOST 1048576: true; the input reads as it did. -/
def summaryMarksUptoRow : OpenClaim := { program := "ytobienpnlaloeaa", sum := "646301c619a55743fad7bd9cc50ed46089f3a5d12d7241b044e1dda4f0cd2d08", func := "silt/siltlaw05.SummaryMarks", spec := "summaryMarks", apart := false, narrowed := true }
def SummaryMarksUptoSaid : Prop := summaryMarksUptoRow.holds Try.pinned (OpenSpec.upto summaryMarksSpec)

end Rows
end Go.Proofs.Ytobienpnlaloeaa
