/-
  No cell of these rows narrows 'for every input' (looked for: loops, veiled, ifaces, maps, wideKeys, modest, calm, conditions, laid).
  DERIVED. THE GIVEN ROWS OF THIS SEAT. 8 by the template 'for every input the law returns true; each argument reads behind the call as it read before'; 0 by the template 'total and deterministic' (their statements: YtpnnmpdjgnbkhaaTotals.lean).
  GIVEN WITH THE SEED: the statements are not yours to turn. If you find one false, say at which input.
  Laid BY PROGRAM, IN A SANDBOX (cutbox-rows.mjs): the forced cells as the released guide's own fill.sh prints them over the translation 271fd24ea16dbf3c… (all of the seat's roots in one cut). By AI agents, Wed Nov 11 2026. No macro, syntax, notation, axiom, sorry.
-/
import Derived.Test.YtpnnmpdjgnbkhaaChecked
import GoSem.Claim
import GoSem.ClaimJoined
import GoSem.ClaimMapViews
import Derived.JoinedTies
import Derived.KernelRfl
namespace Go.Proofs.Ytpnnmpdjgnbkhaa
/- THE CELL 'sum', in the pinned program and in every row, IS THE sha256 OF THE DUMP (.gsa) THAT YtpnnmpdjgnbkhaaProg.lean LOADS. Nothing in Lean hashes anything: it is a label: what it is worth is what the hold of that sum in a sandbox is worth. -/
noncomputable def Try.pinned : Pinned := { name := "ytpnnmpdjgnbkhaa", sum := "271fd24ea16dbf3c8f63ec3b5122956a9afe8173038c3db6ee2aa774a71dcaf0", checked := Try.checked }
namespace Rows
def none {H : Type} : Left H := { results := [], args := [] }

/-- 'siltlaw09.HeadsTell': WHATEVER THE INPUT: true; the input reads as it did. -/
def headsTellSpec : ChangeSpec := { name := "headsTell", fn := fun _ => fun
  | [d1, d2, d3] => { results := [.lit (.bool true)], args := [d1, d2, d3] }
  | _ => none }
def headsTellRow : OpenClaim := { program := "ytpnnmpdjgnbkhaa", sum := "271fd24ea16dbf3c8f63ec3b5122956a9afe8173038c3db6ee2aa774a71dcaf0", func := "silt/siltlaw09.HeadsTell", spec := "headsTell", inPlace := ["internal/reflectlite.TypeOf"], unfollowed := true, recurses := true, apart := false }
def HeadsTellSaid : Prop := headsTellRow.holds Try.pinned (OpenSpec.ofChange headsTellSpec)

/-- ITS FALSE NEIGHBOUR: 'it returns false'. Refute it at one input. -/
def headsTellWrong : ChangeSpec := { name := "headsTell", fn := fun _ => fun
  | [d1, d2, d3] => { results := [.lit (.bool false)], args := [d1, d2, d3] }
  | _ => none }
def HeadsTellWrongFalsely : Prop := headsTellRow.holds Try.pinned (OpenSpec.ofChange headsTellWrong)

/-- 'siltlaw09.HeadsLeast': WHATEVER THE INPUT: true; the input reads as it did. -/
def headsLeastSpec : ChangeSpec := { name := "headsLeast", fn := fun _ => fun
  | [d1, d2] => { results := [.lit (.bool true)], args := [d1, d2] }
  | _ => none }
def headsLeastRow : OpenClaim := { program := "ytpnnmpdjgnbkhaa", sum := "271fd24ea16dbf3c8f63ec3b5122956a9afe8173038c3db6ee2aa774a71dcaf0", func := "silt/siltlaw09.HeadsLeast", spec := "headsLeast", inPlace := ["internal/reflectlite.TypeOf"], unfollowed := true, recurses := true, apart := false }
def HeadsLeastSaid : Prop := headsLeastRow.holds Try.pinned (OpenSpec.ofChange headsLeastSpec)

/-- ITS FALSE NEIGHBOUR: 'it returns false'. Refute it at one input. -/
def headsLeastWrong : ChangeSpec := { name := "headsLeast", fn := fun _ => fun
  | [d1, d2] => { results := [.lit (.bool false)], args := [d1, d2] }
  | _ => none }
def HeadsLeastWrongFalsely : Prop := headsLeastRow.holds Try.pinned (OpenSpec.ofChange headsLeastWrong)

/-- 'siltlaw09.HeadsChanged': WHATEVER THE INPUT: true; the input reads as it did. -/
def headsChangedSpec : ChangeSpec := { name := "headsChanged", fn := fun _ => fun
  | [d1, d2, d3] => { results := [.lit (.bool true)], args := [d1, d2, d3] }
  | _ => none }
def headsChangedRow : OpenClaim := { program := "ytpnnmpdjgnbkhaa", sum := "271fd24ea16dbf3c8f63ec3b5122956a9afe8173038c3db6ee2aa774a71dcaf0", func := "silt/siltlaw09.HeadsChanged", spec := "headsChanged", inPlace := ["internal/reflectlite.TypeOf"], unfollowed := true, recurses := true, apart := false }
def HeadsChangedSaid : Prop := headsChangedRow.holds Try.pinned (OpenSpec.ofChange headsChangedSpec)

/-- ITS FALSE NEIGHBOUR: 'it returns false'. Refute it at one input. -/
def headsChangedWrong : ChangeSpec := { name := "headsChanged", fn := fun _ => fun
  | [d1, d2, d3] => { results := [.lit (.bool false)], args := [d1, d2, d3] }
  | _ => none }
def HeadsChangedWrongFalsely : Prop := headsChangedRow.holds Try.pinned (OpenSpec.ofChange headsChangedWrong)

/-- 'siltlaw18.PolicyTells': WHATEVER THE INPUT: true; the input reads as it did. -/
def policyTellsSpec : ChangeSpec := { name := "policyTells", fn := fun _ => fun
  | [d1, d2, d3] => { results := [.lit (.bool true)], args := [d1, d2, d3] }
  | _ => none }
def policyTellsRow : OpenClaim := { program := "ytpnnmpdjgnbkhaa", sum := "271fd24ea16dbf3c8f63ec3b5122956a9afe8173038c3db6ee2aa774a71dcaf0", func := "silt/siltlaw18.PolicyTells", spec := "policyTells", unfollowed := true, recurses := true, apart := false }
def PolicyTellsSaid : Prop := policyTellsRow.holds Try.pinned (OpenSpec.ofChange policyTellsSpec)

/-- ITS FALSE NEIGHBOUR: 'it returns false'. Refute it at one input. -/
def policyTellsWrong : ChangeSpec := { name := "policyTells", fn := fun _ => fun
  | [d1, d2, d3] => { results := [.lit (.bool false)], args := [d1, d2, d3] }
  | _ => none }
def PolicyTellsWrongFalsely : Prop := policyTellsRow.holds Try.pinned (OpenSpec.ofChange policyTellsWrong)

/-- 'siltlaw27.ModelPlays': WHATEVER THE INPUT: true; the input reads as it did. -/
def modelPlaysSpec : ChangeSpec := { name := "modelPlays", fn := fun _ => fun
  | [d1, d2, d3] => { results := [.lit (.bool true)], args := [d1, d2, d3] }
  | _ => none }
def modelPlaysRow : OpenClaim := { program := "ytpnnmpdjgnbkhaa", sum := "271fd24ea16dbf3c8f63ec3b5122956a9afe8173038c3db6ee2aa774a71dcaf0", func := "silt/siltlaw27.ModelPlays", spec := "modelPlays", inPlace := ["internal/reflectlite.TypeOf"], unfollowed := true, recurses := true, apart := false }
def ModelPlaysSaid : Prop := modelPlaysRow.holds Try.pinned (OpenSpec.ofChange modelPlaysSpec)

/-- ITS FALSE NEIGHBOUR: 'it returns false'. Refute it at one input. -/
def modelPlaysWrong : ChangeSpec := { name := "modelPlays", fn := fun _ => fun
  | [d1, d2, d3] => { results := [.lit (.bool false)], args := [d1, d2, d3] }
  | _ => none }
def ModelPlaysWrongFalsely : Prop := modelPlaysRow.holds Try.pinned (OpenSpec.ofChange modelPlaysWrong)

/-- 'siltlaw27.ModelReads': WHATEVER THE INPUT: true; the input reads as it did. -/
def modelReadsSpec : ChangeSpec := { name := "modelReads", fn := fun _ => fun
  | [d1, d2] => { results := [.lit (.bool true)], args := [d1, d2] }
  | _ => none }
def modelReadsRow : OpenClaim := { program := "ytpnnmpdjgnbkhaa", sum := "271fd24ea16dbf3c8f63ec3b5122956a9afe8173038c3db6ee2aa774a71dcaf0", func := "silt/siltlaw27.ModelReads", spec := "modelReads", inPlace := ["internal/reflectlite.TypeOf"], unfollowed := true, recurses := true, apart := false }
def ModelReadsSaid : Prop := modelReadsRow.holds Try.pinned (OpenSpec.ofChange modelReadsSpec)

/-- ITS FALSE NEIGHBOUR: 'it returns false'. Refute it at one input. -/
def modelReadsWrong : ChangeSpec := { name := "modelReads", fn := fun _ => fun
  | [d1, d2] => { results := [.lit (.bool false)], args := [d1, d2] }
  | _ => none }
def ModelReadsWrongFalsely : Prop := modelReadsRow.holds Try.pinned (OpenSpec.ofChange modelReadsWrong)

/-- 'siltlaw27.ModelNone': WHATEVER THE INPUT: true; the input reads as it did. -/
def modelNoneSpec : ChangeSpec := { name := "modelNone", fn := fun _ => fun
  | [d1, d2] => { results := [.lit (.bool true)], args := [d1, d2] }
  | _ => none }
def modelNoneRow : OpenClaim := { program := "ytpnnmpdjgnbkhaa", sum := "271fd24ea16dbf3c8f63ec3b5122956a9afe8173038c3db6ee2aa774a71dcaf0", func := "silt/siltlaw27.ModelNone", spec := "modelNone", inPlace := ["internal/reflectlite.TypeOf"], unfollowed := true, recurses := true, apart := false }
def ModelNoneSaid : Prop := modelNoneRow.holds Try.pinned (OpenSpec.ofChange modelNoneSpec)

/-- ITS FALSE NEIGHBOUR: 'it returns false'. Refute it at one input. -/
def modelNoneWrong : ChangeSpec := { name := "modelNone", fn := fun _ => fun
  | [d1, d2] => { results := [.lit (.bool false)], args := [d1, d2] }
  | _ => none }
def ModelNoneWrongFalsely : Prop := modelNoneRow.holds Try.pinned (OpenSpec.ofChange modelNoneWrong)

/-- 'siltlaw27.ModelPins': WHATEVER THE INPUT: true; the input reads as it did. -/
def modelPinsSpec : ChangeSpec := { name := "modelPins", fn := fun _ => fun
  | [d] => { results := [.lit (.bool true)], args := [d] }
  | _ => none }
def modelPinsRow : OpenClaim := { program := "ytpnnmpdjgnbkhaa", sum := "271fd24ea16dbf3c8f63ec3b5122956a9afe8173038c3db6ee2aa774a71dcaf0", func := "silt/siltlaw27.ModelPins", spec := "modelPins", inPlace := ["internal/reflectlite.TypeOf"], unfollowed := true, recurses := true, apart := false }
def ModelPinsSaid : Prop := modelPinsRow.holds Try.pinned (OpenSpec.ofChange modelPinsSpec)

/-- ITS FALSE NEIGHBOUR: 'it returns false'. Refute it at one input. -/
def modelPinsWrong : ChangeSpec := { name := "modelPins", fn := fun _ => fun
  | [d] => { results := [.lit (.bool false)], args := [d] }
  | _ => none }
def ModelPinsWrongFalsely : Prop := modelPinsRow.holds Try.pinned (OpenSpec.ofChange modelPinsWrong)

/- THE SECOND FORM. 'bulk': how many values and letters a reading holds, each counted each time it is reached (what is shared counts as often as it is met; a slice's spare places count too). A statement '..UptoSaid' is the law's where the arguments, and the package variables that the reading takes, are together of bulk at most 1048576: NARROWER than '..Said'. Prove '..Said' where nothing that the law and all that it calls make is longer than what came in: it says more and counts as full. Else prove '..UptoSaid'. A law counts once. -/
mutual
def uptoBulk {H : Type} : DataW H → Nat
  | .lit (.string bytes) => bytes.length + 1
  | .lit _ => 1
  | .nil => 1
  | .ptr d => uptoBulk d + 1
  | .slice elems spare => uptoBulkAll elems + uptoBulkAll spare + 1
  | .agg parts => uptoBulkAll parts + 1
  | .iface _ d => uptoBulk d + 1
  | .map entries => uptoBulkEntries entries + 1
  | .held _ => 1
def uptoBulkAll {H : Type} : List (DataW H) → Nat
  | [] => 0
  | d :: r => uptoBulk d + uptoBulkAll r
def uptoBulkEntries {H : Type} : List (Lit × DataW H) → Nat
  | [] => 0
  | x :: r => uptoBulkEntry x + uptoBulkEntries r
def uptoBulkEntry {H : Type} : Lit × DataW H → Nat
  | (.string bytes, d) => bytes.length + uptoBulk d + 1
  | (_, d) => uptoBulk d + 1
 end
def uptoSmall : (H : Type) → List (DataW H) → Bool := fun _ ds => decide (uptoBulkAll ds ≤ 1048576)
def OpenSpec.upto (s : _root_.Go.ChangeSpec) : _root_.Go.OpenSpec := { _root_.Go.OpenSpec.ofChange s with cond := some uptoSmall }

/-- 'siltlaw09.HeadsTell', WHERE WHAT IT READS IS OF BULK AT MOST 1048576: true; the input reads as it did. -/
def headsTellUptoRow : OpenClaim := { program := "ytpnnmpdjgnbkhaa", sum := "271fd24ea16dbf3c8f63ec3b5122956a9afe8173038c3db6ee2aa774a71dcaf0", func := "silt/siltlaw09.HeadsTell", spec := "headsTell", inPlace := ["internal/reflectlite.TypeOf"], unfollowed := true, recurses := true, apart := false, narrowed := true }
def HeadsTellUptoSaid : Prop := headsTellUptoRow.holds Try.pinned (OpenSpec.upto headsTellSpec)

/-- 'siltlaw09.HeadsLeast', WHERE WHAT IT READS IS OF BULK AT MOST 1048576: true; the input reads as it did. -/
def headsLeastUptoRow : OpenClaim := { program := "ytpnnmpdjgnbkhaa", sum := "271fd24ea16dbf3c8f63ec3b5122956a9afe8173038c3db6ee2aa774a71dcaf0", func := "silt/siltlaw09.HeadsLeast", spec := "headsLeast", inPlace := ["internal/reflectlite.TypeOf"], unfollowed := true, recurses := true, apart := false, narrowed := true }
def HeadsLeastUptoSaid : Prop := headsLeastUptoRow.holds Try.pinned (OpenSpec.upto headsLeastSpec)

/-- 'siltlaw09.HeadsChanged', WHERE WHAT IT READS IS OF BULK AT MOST 1048576: true; the input reads as it did. -/
def headsChangedUptoRow : OpenClaim := { program := "ytpnnmpdjgnbkhaa", sum := "271fd24ea16dbf3c8f63ec3b5122956a9afe8173038c3db6ee2aa774a71dcaf0", func := "silt/siltlaw09.HeadsChanged", spec := "headsChanged", inPlace := ["internal/reflectlite.TypeOf"], unfollowed := true, recurses := true, apart := false, narrowed := true }
def HeadsChangedUptoSaid : Prop := headsChangedUptoRow.holds Try.pinned (OpenSpec.upto headsChangedSpec)

/-- 'siltlaw18.PolicyTells', WHERE WHAT IT READS IS OF BULK AT MOST 1048576: true; the input reads as it did. -/
def policyTellsUptoRow : OpenClaim := { program := "ytpnnmpdjgnbkhaa", sum := "271fd24ea16dbf3c8f63ec3b5122956a9afe8173038c3db6ee2aa774a71dcaf0", func := "silt/siltlaw18.PolicyTells", spec := "policyTells", unfollowed := true, recurses := true, apart := false, narrowed := true }
def PolicyTellsUptoSaid : Prop := policyTellsUptoRow.holds Try.pinned (OpenSpec.upto policyTellsSpec)

/-- 'siltlaw27.ModelPlays', WHERE WHAT IT READS IS OF BULK AT MOST 1048576: true; the input reads as it did. -/
def modelPlaysUptoRow : OpenClaim := { program := "ytpnnmpdjgnbkhaa", sum := "271fd24ea16dbf3c8f63ec3b5122956a9afe8173038c3db6ee2aa774a71dcaf0", func := "silt/siltlaw27.ModelPlays", spec := "modelPlays", inPlace := ["internal/reflectlite.TypeOf"], unfollowed := true, recurses := true, apart := false, narrowed := true }
def ModelPlaysUptoSaid : Prop := modelPlaysUptoRow.holds Try.pinned (OpenSpec.upto modelPlaysSpec)

/-- 'siltlaw27.ModelReads', WHERE WHAT IT READS IS OF BULK AT MOST 1048576: true; the input reads as it did. -/
def modelReadsUptoRow : OpenClaim := { program := "ytpnnmpdjgnbkhaa", sum := "271fd24ea16dbf3c8f63ec3b5122956a9afe8173038c3db6ee2aa774a71dcaf0", func := "silt/siltlaw27.ModelReads", spec := "modelReads", inPlace := ["internal/reflectlite.TypeOf"], unfollowed := true, recurses := true, apart := false, narrowed := true }
def ModelReadsUptoSaid : Prop := modelReadsUptoRow.holds Try.pinned (OpenSpec.upto modelReadsSpec)

/-- 'siltlaw27.ModelNone', WHERE WHAT IT READS IS OF BULK AT MOST 1048576: true; the input reads as it did. -/
def modelNoneUptoRow : OpenClaim := { program := "ytpnnmpdjgnbkhaa", sum := "271fd24ea16dbf3c8f63ec3b5122956a9afe8173038c3db6ee2aa774a71dcaf0", func := "silt/siltlaw27.ModelNone", spec := "modelNone", inPlace := ["internal/reflectlite.TypeOf"], unfollowed := true, recurses := true, apart := false, narrowed := true }
def ModelNoneUptoSaid : Prop := modelNoneUptoRow.holds Try.pinned (OpenSpec.upto modelNoneSpec)

/-- 'siltlaw27.ModelPins', WHERE WHAT IT READS IS OF BULK AT MOST 1048576: true; the input reads as it did. -/
def modelPinsUptoRow : OpenClaim := { program := "ytpnnmpdjgnbkhaa", sum := "271fd24ea16dbf3c8f63ec3b5122956a9afe8173038c3db6ee2aa774a71dcaf0", func := "silt/siltlaw27.ModelPins", spec := "modelPins", inPlace := ["internal/reflectlite.TypeOf"], unfollowed := true, recurses := true, apart := false, narrowed := true }
def ModelPinsUptoSaid : Prop := modelPinsUptoRow.holds Try.pinned (OpenSpec.upto modelPinsSpec)

end Rows
end Go.Proofs.Ytpnnmpdjgnbkhaa
