/-
  NARROWER THAN 'FOR EVERY INPUT', by the rows' own cells (each row's printed sentence says how): DeltaTells: laid · DeltaBack: laid · DeltaLays: laid · DeltaTwice: laid · FaultKeeps: laid · FaultNone: laid · FaultTwo: laid · FaultTexts: laid · RegionCodes: laid · RegionTorn: laid · RegionPlaces: laid · RegionRoots: laid · PolicyMakes: laid · MapBack: laid · MapPages: laid · FoldTells: laid · FoldMore: laid · FoldWhole: laid · PolicyChains: laid.
  DERIVED. THE GIVEN ROWS OF THIS SEAT. 19 by the template 'for every input the law returns true; each argument reads behind the call as it read before'; 0 by the template 'total and deterministic' (their statements: YtpnnmpdjgnbkhaaDoorTotals.lean).
  GIVEN WITH THE SEED: the statements are not yours to turn. If you find one false, say at which input.
  Laid BY PROGRAM, IN A SANDBOX (cutbox-rows.mjs): the forced cells as the released guide's own fill.sh prints them over the translation ab666632e3acc332… (all of the seat's roots in one cut). By AI agents, Wed Nov 11 2026. No macro, syntax, notation, axiom, sorry.
-/
import Derived.Test.YtpnnmpdjgnbkhaaDoorChecked
import GoSem.Claim
import GoSem.ClaimJoined
import GoSem.ClaimMapViews
import Derived.JoinedTies
import Derived.KernelRfl
namespace Go.Proofs.YtpnnmpdjgnbkhaaDoor
/- THE CELL 'sum', in the pinned program and in every row, IS THE sha256 OF THE DUMP (.gsa) THAT YtpnnmpdjgnbkhaaDoorProg.lean LOADS. Nothing in Lean hashes anything: it is a label: what it is worth is what the hold of that sum in a sandbox is worth. -/
noncomputable def Tryd.pinned : Pinned := { name := "ytpnnmpdjgnbkhaadoor", sum := "ab666632e3acc332ce9c6fc59c44c490bedc8f8651401b9a0cebaed6706aae1a", checked := Tryd.checked }
namespace Rows
def none {H : Type} : Left H := { results := [], args := [] }

/- WHAT THE LISTED PACKAGE-LEVEL VARIABLES READ AS WHEN THE CALL BEGINS. Each datum BY PROGRAM (the guide's laid-datum.mjs) off the statement by which the dump's own 'gosem.cut.vars' lays the variable. In a bare row this is a premise. The card (YtpnnmpdjgnbkhaaDoorCards.lean) ties it to the program's text. -/
def laid_errors_errorType {H : Type} : DataW H := .iface "internal/reflectlite.rtype" (.agg [.ptr (.lit (.string [101, 114, 114, 111, 114]))])

/-- 'siltlaw07.DeltaTells': WHATEVER THE INPUT: true; the input reads as it did. -/
def deltaTellsSpec : ChangeSpec := { name := "deltaTells", fn := fun _ => fun
  | [d1, d2, d3] => { results := [.lit (.bool true)], args := [d1, d2, d3] }
  | _ => none }
def deltaTellsRow : OpenClaim := { program := "ytpnnmpdjgnbkhaadoor", sum := "ab666632e3acc332ce9c6fc59c44c490bedc8f8651401b9a0cebaed6706aae1a", func := "silt/siltlaw07.DeltaTells", spec := "deltaTells", inPlace := ["internal/reflectlite.ValueOf", "(internal/reflectlite.Value).Type", "(internal/reflectlite.Value).IsNil", "internal/reflectlite.TypeOf", "(internal/reflectlite.Value).Elem", "(internal/reflectlite.Value).Set"], unfollowed := true, recurses := true, named := ["errors.errorType"], apart := false, laid := [("errors.errorType", laid_errors_errorType)] }
def DeltaTellsSaid : Prop := deltaTellsRow.holds Tryd.pinned (OpenSpec.ofChange deltaTellsSpec)

/-- ITS FALSE NEIGHBOUR: 'it returns false'. Refute it at one input. -/
def deltaTellsWrong : ChangeSpec := { name := "deltaTells", fn := fun _ => fun
  | [d1, d2, d3] => { results := [.lit (.bool false)], args := [d1, d2, d3] }
  | _ => none }
def DeltaTellsWrongFalsely : Prop := deltaTellsRow.holds Tryd.pinned (OpenSpec.ofChange deltaTellsWrong)

/-- 'siltlaw07.DeltaBack': WHATEVER THE INPUT: true; the input reads as it did. -/
def deltaBackSpec : ChangeSpec := { name := "deltaBack", fn := fun _ => fun
  | [d1, d2] => { results := [.lit (.bool true)], args := [d1, d2] }
  | _ => none }
def deltaBackRow : OpenClaim := { program := "ytpnnmpdjgnbkhaadoor", sum := "ab666632e3acc332ce9c6fc59c44c490bedc8f8651401b9a0cebaed6706aae1a", func := "silt/siltlaw07.DeltaBack", spec := "deltaBack", inPlace := ["internal/reflectlite.ValueOf", "(internal/reflectlite.Value).Type", "(internal/reflectlite.Value).IsNil", "internal/reflectlite.TypeOf", "(internal/reflectlite.Value).Elem", "(internal/reflectlite.Value).Set"], unfollowed := true, recurses := true, named := ["errors.errorType"], apart := false, laid := [("errors.errorType", laid_errors_errorType)] }
def DeltaBackSaid : Prop := deltaBackRow.holds Tryd.pinned (OpenSpec.ofChange deltaBackSpec)

/-- ITS FALSE NEIGHBOUR: 'it returns false'. Refute it at one input. -/
def deltaBackWrong : ChangeSpec := { name := "deltaBack", fn := fun _ => fun
  | [d1, d2] => { results := [.lit (.bool false)], args := [d1, d2] }
  | _ => none }
def DeltaBackWrongFalsely : Prop := deltaBackRow.holds Tryd.pinned (OpenSpec.ofChange deltaBackWrong)

/-- 'siltlaw07.DeltaLays': WHATEVER THE INPUT: true; the input reads as it did. -/
def deltaLaysSpec : ChangeSpec := { name := "deltaLays", fn := fun _ => fun
  | [d1, d2] => { results := [.lit (.bool true)], args := [d1, d2] }
  | _ => none }
def deltaLaysRow : OpenClaim := { program := "ytpnnmpdjgnbkhaadoor", sum := "ab666632e3acc332ce9c6fc59c44c490bedc8f8651401b9a0cebaed6706aae1a", func := "silt/siltlaw07.DeltaLays", spec := "deltaLays", inPlace := ["internal/reflectlite.ValueOf", "(internal/reflectlite.Value).Type", "(internal/reflectlite.Value).IsNil", "internal/reflectlite.TypeOf", "(internal/reflectlite.Value).Elem", "(internal/reflectlite.Value).Set"], unfollowed := true, recurses := true, named := ["errors.errorType"], apart := false, laid := [("errors.errorType", laid_errors_errorType)] }
def DeltaLaysSaid : Prop := deltaLaysRow.holds Tryd.pinned (OpenSpec.ofChange deltaLaysSpec)

/-- ITS FALSE NEIGHBOUR: 'it returns false'. Refute it at one input. -/
def deltaLaysWrong : ChangeSpec := { name := "deltaLays", fn := fun _ => fun
  | [d1, d2] => { results := [.lit (.bool false)], args := [d1, d2] }
  | _ => none }
def DeltaLaysWrongFalsely : Prop := deltaLaysRow.holds Tryd.pinned (OpenSpec.ofChange deltaLaysWrong)

/-- 'siltlaw07.DeltaTwice': WHATEVER THE INPUT: true; the input reads as it did. -/
def deltaTwiceSpec : ChangeSpec := { name := "deltaTwice", fn := fun _ => fun
  | [d1, d2, d3] => { results := [.lit (.bool true)], args := [d1, d2, d3] }
  | _ => none }
def deltaTwiceRow : OpenClaim := { program := "ytpnnmpdjgnbkhaadoor", sum := "ab666632e3acc332ce9c6fc59c44c490bedc8f8651401b9a0cebaed6706aae1a", func := "silt/siltlaw07.DeltaTwice", spec := "deltaTwice", inPlace := ["internal/reflectlite.ValueOf", "(internal/reflectlite.Value).Type", "(internal/reflectlite.Value).IsNil", "internal/reflectlite.TypeOf", "(internal/reflectlite.Value).Elem", "(internal/reflectlite.Value).Set"], unfollowed := true, recurses := true, named := ["errors.errorType"], apart := false, laid := [("errors.errorType", laid_errors_errorType)] }
def DeltaTwiceSaid : Prop := deltaTwiceRow.holds Tryd.pinned (OpenSpec.ofChange deltaTwiceSpec)

/-- ITS FALSE NEIGHBOUR: 'it returns false'. Refute it at one input. -/
def deltaTwiceWrong : ChangeSpec := { name := "deltaTwice", fn := fun _ => fun
  | [d1, d2, d3] => { results := [.lit (.bool false)], args := [d1, d2, d3] }
  | _ => none }
def DeltaTwiceWrongFalsely : Prop := deltaTwiceRow.holds Tryd.pinned (OpenSpec.ofChange deltaTwiceWrong)

/-- 'siltlaw01.FaultKeeps': WHATEVER THE INPUT: true; the input reads as it did. -/
def faultKeepsSpec : ChangeSpec := { name := "faultKeeps", fn := fun _ => fun
  | [d1, d2, d3] => { results := [.lit (.bool true)], args := [d1, d2, d3] }
  | _ => none }
def faultKeepsRow : OpenClaim := { program := "ytpnnmpdjgnbkhaadoor", sum := "ab666632e3acc332ce9c6fc59c44c490bedc8f8651401b9a0cebaed6706aae1a", func := "silt/siltlaw01.FaultKeeps", spec := "faultKeeps", inPlace := ["internal/reflectlite.ValueOf", "(internal/reflectlite.Value).Type", "(internal/reflectlite.Value).IsNil", "internal/reflectlite.TypeOf", "(internal/reflectlite.Value).Elem", "(internal/reflectlite.Value).Set"], unfollowed := true, recurses := true, named := ["errors.errorType"], apart := false, laid := [("errors.errorType", laid_errors_errorType)] }
def FaultKeepsSaid : Prop := faultKeepsRow.holds Tryd.pinned (OpenSpec.ofChange faultKeepsSpec)

/-- ITS FALSE NEIGHBOUR: 'it returns false'. Refute it at one input. -/
def faultKeepsWrong : ChangeSpec := { name := "faultKeeps", fn := fun _ => fun
  | [d1, d2, d3] => { results := [.lit (.bool false)], args := [d1, d2, d3] }
  | _ => none }
def FaultKeepsWrongFalsely : Prop := faultKeepsRow.holds Tryd.pinned (OpenSpec.ofChange faultKeepsWrong)

/-- 'siltlaw01.FaultNone': WHATEVER THE INPUT: true; the input reads as it did. -/
def faultNoneSpec : ChangeSpec := { name := "faultNone", fn := fun _ => fun
  | [d1, d2] => { results := [.lit (.bool true)], args := [d1, d2] }
  | _ => none }
def faultNoneRow : OpenClaim := { program := "ytpnnmpdjgnbkhaadoor", sum := "ab666632e3acc332ce9c6fc59c44c490bedc8f8651401b9a0cebaed6706aae1a", func := "silt/siltlaw01.FaultNone", spec := "faultNone", inPlace := ["internal/reflectlite.ValueOf", "(internal/reflectlite.Value).Type", "(internal/reflectlite.Value).IsNil", "internal/reflectlite.TypeOf", "(internal/reflectlite.Value).Elem", "(internal/reflectlite.Value).Set"], unfollowed := true, recurses := true, named := ["errors.errorType"], apart := false, laid := [("errors.errorType", laid_errors_errorType)] }
def FaultNoneSaid : Prop := faultNoneRow.holds Tryd.pinned (OpenSpec.ofChange faultNoneSpec)

/-- ITS FALSE NEIGHBOUR: 'it returns false'. Refute it at one input. -/
def faultNoneWrong : ChangeSpec := { name := "faultNone", fn := fun _ => fun
  | [d1, d2] => { results := [.lit (.bool false)], args := [d1, d2] }
  | _ => none }
def FaultNoneWrongFalsely : Prop := faultNoneRow.holds Tryd.pinned (OpenSpec.ofChange faultNoneWrong)

/-- 'siltlaw01.FaultTwo': WHATEVER THE INPUT: true; the input reads as it did. -/
def faultTwoSpec : ChangeSpec := { name := "faultTwo", fn := fun _ => fun
  | [d1, d2, d3] => { results := [.lit (.bool true)], args := [d1, d2, d3] }
  | _ => none }
def faultTwoRow : OpenClaim := { program := "ytpnnmpdjgnbkhaadoor", sum := "ab666632e3acc332ce9c6fc59c44c490bedc8f8651401b9a0cebaed6706aae1a", func := "silt/siltlaw01.FaultTwo", spec := "faultTwo", inPlace := ["internal/reflectlite.ValueOf", "(internal/reflectlite.Value).Type", "(internal/reflectlite.Value).IsNil", "internal/reflectlite.TypeOf", "(internal/reflectlite.Value).Elem", "(internal/reflectlite.Value).Set"], unfollowed := true, recurses := true, named := ["errors.errorType"], apart := false, laid := [("errors.errorType", laid_errors_errorType)] }
def FaultTwoSaid : Prop := faultTwoRow.holds Tryd.pinned (OpenSpec.ofChange faultTwoSpec)

/-- ITS FALSE NEIGHBOUR: 'it returns false'. Refute it at one input. -/
def faultTwoWrong : ChangeSpec := { name := "faultTwo", fn := fun _ => fun
  | [d1, d2, d3] => { results := [.lit (.bool false)], args := [d1, d2, d3] }
  | _ => none }
def FaultTwoWrongFalsely : Prop := faultTwoRow.holds Tryd.pinned (OpenSpec.ofChange faultTwoWrong)

/-- 'siltlaw01.FaultTexts': WHATEVER THE INPUT: true; the input reads as it did. -/
def faultTextsSpec : ChangeSpec := { name := "faultTexts", fn := fun _ => fun
  | [d1, d2, d3] => { results := [.lit (.bool true)], args := [d1, d2, d3] }
  | _ => none }
def faultTextsRow : OpenClaim := { program := "ytpnnmpdjgnbkhaadoor", sum := "ab666632e3acc332ce9c6fc59c44c490bedc8f8651401b9a0cebaed6706aae1a", func := "silt/siltlaw01.FaultTexts", spec := "faultTexts", inPlace := ["internal/reflectlite.ValueOf", "(internal/reflectlite.Value).Type", "(internal/reflectlite.Value).IsNil", "internal/reflectlite.TypeOf", "(internal/reflectlite.Value).Elem", "(internal/reflectlite.Value).Set"], unfollowed := true, recurses := true, named := ["errors.errorType"], apart := false, laid := [("errors.errorType", laid_errors_errorType)] }
def FaultTextsSaid : Prop := faultTextsRow.holds Tryd.pinned (OpenSpec.ofChange faultTextsSpec)

/-- ITS FALSE NEIGHBOUR: 'it returns false'. Refute it at one input. -/
def faultTextsWrong : ChangeSpec := { name := "faultTexts", fn := fun _ => fun
  | [d1, d2, d3] => { results := [.lit (.bool false)], args := [d1, d2, d3] }
  | _ => none }
def FaultTextsWrongFalsely : Prop := faultTextsRow.holds Tryd.pinned (OpenSpec.ofChange faultTextsWrong)

/-- 'siltlaw06.RegionCodes': WHATEVER THE INPUT: true; the input reads as it did. -/
def regionCodesSpec : ChangeSpec := { name := "regionCodes", fn := fun _ => fun
  | [d1, d2] => { results := [.lit (.bool true)], args := [d1, d2] }
  | _ => none }
def regionCodesRow : OpenClaim := { program := "ytpnnmpdjgnbkhaadoor", sum := "ab666632e3acc332ce9c6fc59c44c490bedc8f8651401b9a0cebaed6706aae1a", func := "silt/siltlaw06.RegionCodes", spec := "regionCodes", inPlace := ["internal/reflectlite.ValueOf", "(internal/reflectlite.Value).Type", "(internal/reflectlite.Value).IsNil", "internal/reflectlite.TypeOf", "(internal/reflectlite.Value).Elem", "(internal/reflectlite.Value).Set"], unfollowed := true, recurses := true, named := ["errors.errorType"], apart := false, laid := [("errors.errorType", laid_errors_errorType)] }
def RegionCodesSaid : Prop := regionCodesRow.holds Tryd.pinned (OpenSpec.ofChange regionCodesSpec)

/-- ITS FALSE NEIGHBOUR: 'it returns false'. Refute it at one input. -/
def regionCodesWrong : ChangeSpec := { name := "regionCodes", fn := fun _ => fun
  | [d1, d2] => { results := [.lit (.bool false)], args := [d1, d2] }
  | _ => none }
def RegionCodesWrongFalsely : Prop := regionCodesRow.holds Tryd.pinned (OpenSpec.ofChange regionCodesWrong)

/-- 'siltlaw06.RegionTorn': WHATEVER THE INPUT: true; the input reads as it did. -/
def regionTornSpec : ChangeSpec := { name := "regionTorn", fn := fun _ => fun
  | [d1, d2] => { results := [.lit (.bool true)], args := [d1, d2] }
  | _ => none }
def regionTornRow : OpenClaim := { program := "ytpnnmpdjgnbkhaadoor", sum := "ab666632e3acc332ce9c6fc59c44c490bedc8f8651401b9a0cebaed6706aae1a", func := "silt/siltlaw06.RegionTorn", spec := "regionTorn", inPlace := ["internal/reflectlite.ValueOf", "(internal/reflectlite.Value).Type", "(internal/reflectlite.Value).IsNil", "internal/reflectlite.TypeOf", "(internal/reflectlite.Value).Elem", "(internal/reflectlite.Value).Set"], unfollowed := true, recurses := true, named := ["errors.errorType"], apart := false, laid := [("errors.errorType", laid_errors_errorType)] }
def RegionTornSaid : Prop := regionTornRow.holds Tryd.pinned (OpenSpec.ofChange regionTornSpec)

/-- ITS FALSE NEIGHBOUR: 'it returns false'. Refute it at one input. -/
def regionTornWrong : ChangeSpec := { name := "regionTorn", fn := fun _ => fun
  | [d1, d2] => { results := [.lit (.bool false)], args := [d1, d2] }
  | _ => none }
def RegionTornWrongFalsely : Prop := regionTornRow.holds Tryd.pinned (OpenSpec.ofChange regionTornWrong)

/-- 'siltlaw06.RegionPlaces': WHATEVER THE INPUT: true; the input reads as it did. -/
def regionPlacesSpec : ChangeSpec := { name := "regionPlaces", fn := fun _ => fun
  | [d] => { results := [.lit (.bool true)], args := [d] }
  | _ => none }
def regionPlacesRow : OpenClaim := { program := "ytpnnmpdjgnbkhaadoor", sum := "ab666632e3acc332ce9c6fc59c44c490bedc8f8651401b9a0cebaed6706aae1a", func := "silt/siltlaw06.RegionPlaces", spec := "regionPlaces", inPlace := ["internal/reflectlite.ValueOf", "(internal/reflectlite.Value).Type", "(internal/reflectlite.Value).IsNil", "internal/reflectlite.TypeOf", "(internal/reflectlite.Value).Elem", "(internal/reflectlite.Value).Set"], unfollowed := true, recurses := true, named := ["errors.errorType"], apart := false, laid := [("errors.errorType", laid_errors_errorType)] }
def RegionPlacesSaid : Prop := regionPlacesRow.holds Tryd.pinned (OpenSpec.ofChange regionPlacesSpec)

/-- ITS FALSE NEIGHBOUR: 'it returns false'. Refute it at one input. -/
def regionPlacesWrong : ChangeSpec := { name := "regionPlaces", fn := fun _ => fun
  | [d] => { results := [.lit (.bool false)], args := [d] }
  | _ => none }
def RegionPlacesWrongFalsely : Prop := regionPlacesRow.holds Tryd.pinned (OpenSpec.ofChange regionPlacesWrong)

/-- 'siltlaw06.RegionRoots': WHATEVER THE INPUT: true; the input reads as it did. -/
def regionRootsSpec : ChangeSpec := { name := "regionRoots", fn := fun _ => fun
  | [d1, d2, d3] => { results := [.lit (.bool true)], args := [d1, d2, d3] }
  | _ => none }
def regionRootsRow : OpenClaim := { program := "ytpnnmpdjgnbkhaadoor", sum := "ab666632e3acc332ce9c6fc59c44c490bedc8f8651401b9a0cebaed6706aae1a", func := "silt/siltlaw06.RegionRoots", spec := "regionRoots", inPlace := ["internal/reflectlite.ValueOf", "(internal/reflectlite.Value).Type", "(internal/reflectlite.Value).IsNil", "internal/reflectlite.TypeOf", "(internal/reflectlite.Value).Elem", "(internal/reflectlite.Value).Set"], unfollowed := true, recurses := true, named := ["errors.errorType"], apart := false, laid := [("errors.errorType", laid_errors_errorType)] }
def RegionRootsSaid : Prop := regionRootsRow.holds Tryd.pinned (OpenSpec.ofChange regionRootsSpec)

/-- ITS FALSE NEIGHBOUR: 'it returns false'. Refute it at one input. -/
def regionRootsWrong : ChangeSpec := { name := "regionRoots", fn := fun _ => fun
  | [d1, d2, d3] => { results := [.lit (.bool false)], args := [d1, d2, d3] }
  | _ => none }
def RegionRootsWrongFalsely : Prop := regionRootsRow.holds Tryd.pinned (OpenSpec.ofChange regionRootsWrong)

/-- 'siltlaw18.PolicyMakes': WHATEVER THE INPUT: true; the input reads as it did. -/
def policyMakesSpec : ChangeSpec := { name := "policyMakes", fn := fun _ => fun
  | [d1, d2, d3] => { results := [.lit (.bool true)], args := [d1, d2, d3] }
  | _ => none }
def policyMakesRow : OpenClaim := { program := "ytpnnmpdjgnbkhaadoor", sum := "ab666632e3acc332ce9c6fc59c44c490bedc8f8651401b9a0cebaed6706aae1a", func := "silt/siltlaw18.PolicyMakes", spec := "policyMakes", inPlace := ["internal/reflectlite.ValueOf", "(internal/reflectlite.Value).Type", "(internal/reflectlite.Value).IsNil", "internal/reflectlite.TypeOf", "(internal/reflectlite.Value).Elem", "(internal/reflectlite.Value).Set"], unfollowed := true, recurses := true, named := ["errors.errorType"], apart := false, laid := [("errors.errorType", laid_errors_errorType)] }
def PolicyMakesSaid : Prop := policyMakesRow.holds Tryd.pinned (OpenSpec.ofChange policyMakesSpec)

/-- ITS FALSE NEIGHBOUR: 'it returns false'. Refute it at one input. -/
def policyMakesWrong : ChangeSpec := { name := "policyMakes", fn := fun _ => fun
  | [d1, d2, d3] => { results := [.lit (.bool false)], args := [d1, d2, d3] }
  | _ => none }
def PolicyMakesWrongFalsely : Prop := policyMakesRow.holds Tryd.pinned (OpenSpec.ofChange policyMakesWrong)

/-- 'siltlaw10.MapBack': WHATEVER THE INPUT: true; the input reads as it did. -/
def mapBackSpec : ChangeSpec := { name := "mapBack", fn := fun _ => fun
  | [d1, d2, d3] => { results := [.lit (.bool true)], args := [d1, d2, d3] }
  | _ => none }
def mapBackRow : OpenClaim := { program := "ytpnnmpdjgnbkhaadoor", sum := "ab666632e3acc332ce9c6fc59c44c490bedc8f8651401b9a0cebaed6706aae1a", func := "silt/siltlaw10.MapBack", spec := "mapBack", inPlace := ["internal/reflectlite.ValueOf", "(internal/reflectlite.Value).Type", "(internal/reflectlite.Value).IsNil", "internal/reflectlite.TypeOf", "(internal/reflectlite.Value).Elem", "(internal/reflectlite.Value).Set"], unfollowed := true, recurses := true, named := ["errors.errorType"], apart := false, laid := [("errors.errorType", laid_errors_errorType)] }
def MapBackSaid : Prop := mapBackRow.holds Tryd.pinned (OpenSpec.ofChange mapBackSpec)

/-- ITS FALSE NEIGHBOUR: 'it returns false'. Refute it at one input. -/
def mapBackWrong : ChangeSpec := { name := "mapBack", fn := fun _ => fun
  | [d1, d2, d3] => { results := [.lit (.bool false)], args := [d1, d2, d3] }
  | _ => none }
def MapBackWrongFalsely : Prop := mapBackRow.holds Tryd.pinned (OpenSpec.ofChange mapBackWrong)

/-- 'siltlaw10.MapPages': WHATEVER THE INPUT: true; the input reads as it did. -/
def mapPagesSpec : ChangeSpec := { name := "mapPages", fn := fun _ => fun
  | [d1, d2, d3] => { results := [.lit (.bool true)], args := [d1, d2, d3] }
  | _ => none }
def mapPagesRow : OpenClaim := { program := "ytpnnmpdjgnbkhaadoor", sum := "ab666632e3acc332ce9c6fc59c44c490bedc8f8651401b9a0cebaed6706aae1a", func := "silt/siltlaw10.MapPages", spec := "mapPages", inPlace := ["internal/reflectlite.ValueOf", "(internal/reflectlite.Value).Type", "(internal/reflectlite.Value).IsNil", "internal/reflectlite.TypeOf", "(internal/reflectlite.Value).Elem", "(internal/reflectlite.Value).Set"], unfollowed := true, recurses := true, named := ["errors.errorType"], apart := false, laid := [("errors.errorType", laid_errors_errorType)] }
def MapPagesSaid : Prop := mapPagesRow.holds Tryd.pinned (OpenSpec.ofChange mapPagesSpec)

/-- ITS FALSE NEIGHBOUR: 'it returns false'. Refute it at one input. -/
def mapPagesWrong : ChangeSpec := { name := "mapPages", fn := fun _ => fun
  | [d1, d2, d3] => { results := [.lit (.bool false)], args := [d1, d2, d3] }
  | _ => none }
def MapPagesWrongFalsely : Prop := mapPagesRow.holds Tryd.pinned (OpenSpec.ofChange mapPagesWrong)

/-- 'siltlaw08.FoldTells': WHATEVER THE INPUT: true; the input reads as it did. -/
def foldTellsSpec : ChangeSpec := { name := "foldTells", fn := fun _ => fun
  | [d] => { results := [.lit (.bool true)], args := [d] }
  | _ => none }
def foldTellsRow : OpenClaim := { program := "ytpnnmpdjgnbkhaadoor", sum := "ab666632e3acc332ce9c6fc59c44c490bedc8f8651401b9a0cebaed6706aae1a", func := "silt/siltlaw08.FoldTells", spec := "foldTells", inPlace := ["internal/reflectlite.TypeOf", "internal/reflectlite.ValueOf", "(internal/reflectlite.Value).Type", "(internal/reflectlite.Value).IsNil", "(internal/reflectlite.Value).Elem", "(internal/reflectlite.Value).Set"], unfollowed := true, recurses := true, named := ["errors.errorType"], apart := false, laid := [("errors.errorType", laid_errors_errorType)] }
def FoldTellsSaid : Prop := foldTellsRow.holds Tryd.pinned (OpenSpec.ofChange foldTellsSpec)

/-- ITS FALSE NEIGHBOUR: 'it returns false'. Refute it at one input. -/
def foldTellsWrong : ChangeSpec := { name := "foldTells", fn := fun _ => fun
  | [d] => { results := [.lit (.bool false)], args := [d] }
  | _ => none }
def FoldTellsWrongFalsely : Prop := foldTellsRow.holds Tryd.pinned (OpenSpec.ofChange foldTellsWrong)

/-- 'siltlaw08.FoldMore': WHATEVER THE INPUT: true; the input reads as it did. -/
def foldMoreSpec : ChangeSpec := { name := "foldMore", fn := fun _ => fun
  | [d1, d2, d3] => { results := [.lit (.bool true)], args := [d1, d2, d3] }
  | _ => none }
def foldMoreRow : OpenClaim := { program := "ytpnnmpdjgnbkhaadoor", sum := "ab666632e3acc332ce9c6fc59c44c490bedc8f8651401b9a0cebaed6706aae1a", func := "silt/siltlaw08.FoldMore", spec := "foldMore", inPlace := ["internal/reflectlite.TypeOf", "internal/reflectlite.ValueOf", "(internal/reflectlite.Value).Type", "(internal/reflectlite.Value).IsNil", "(internal/reflectlite.Value).Elem", "(internal/reflectlite.Value).Set"], unfollowed := true, recurses := true, named := ["errors.errorType"], apart := false, laid := [("errors.errorType", laid_errors_errorType)] }
def FoldMoreSaid : Prop := foldMoreRow.holds Tryd.pinned (OpenSpec.ofChange foldMoreSpec)

/-- ITS FALSE NEIGHBOUR: 'it returns false'. Refute it at one input. -/
def foldMoreWrong : ChangeSpec := { name := "foldMore", fn := fun _ => fun
  | [d1, d2, d3] => { results := [.lit (.bool false)], args := [d1, d2, d3] }
  | _ => none }
def FoldMoreWrongFalsely : Prop := foldMoreRow.holds Tryd.pinned (OpenSpec.ofChange foldMoreWrong)

/-- 'siltlaw08.FoldWhole': WHATEVER THE INPUT: true; the input reads as it did. -/
def foldWholeSpec : ChangeSpec := { name := "foldWhole", fn := fun _ => fun
  | [d1, d2, d3] => { results := [.lit (.bool true)], args := [d1, d2, d3] }
  | _ => none }
def foldWholeRow : OpenClaim := { program := "ytpnnmpdjgnbkhaadoor", sum := "ab666632e3acc332ce9c6fc59c44c490bedc8f8651401b9a0cebaed6706aae1a", func := "silt/siltlaw08.FoldWhole", spec := "foldWhole", inPlace := ["internal/reflectlite.TypeOf", "internal/reflectlite.ValueOf", "(internal/reflectlite.Value).Type", "(internal/reflectlite.Value).IsNil", "(internal/reflectlite.Value).Elem", "(internal/reflectlite.Value).Set"], unfollowed := true, recurses := true, named := ["errors.errorType"], apart := false, laid := [("errors.errorType", laid_errors_errorType)] }
def FoldWholeSaid : Prop := foldWholeRow.holds Tryd.pinned (OpenSpec.ofChange foldWholeSpec)

/-- ITS FALSE NEIGHBOUR: 'it returns false'. Refute it at one input. -/
def foldWholeWrong : ChangeSpec := { name := "foldWhole", fn := fun _ => fun
  | [d1, d2, d3] => { results := [.lit (.bool false)], args := [d1, d2, d3] }
  | _ => none }
def FoldWholeWrongFalsely : Prop := foldWholeRow.holds Tryd.pinned (OpenSpec.ofChange foldWholeWrong)

/-- 'siltlaw18.PolicyChains': WHATEVER THE INPUT: true; the input reads as it did. -/
def policyChainsSpec : ChangeSpec := { name := "policyChains", fn := fun _ => fun
  | [d1, d2] => { results := [.lit (.bool true)], args := [d1, d2] }
  | _ => none }
def policyChainsRow : OpenClaim := { program := "ytpnnmpdjgnbkhaadoor", sum := "ab666632e3acc332ce9c6fc59c44c490bedc8f8651401b9a0cebaed6706aae1a", func := "silt/siltlaw18.PolicyChains", spec := "policyChains", inPlace := ["internal/reflectlite.TypeOf", "internal/reflectlite.ValueOf", "(internal/reflectlite.Value).Type", "(internal/reflectlite.Value).IsNil", "(internal/reflectlite.Value).Elem", "(internal/reflectlite.Value).Set"], unfollowed := true, recurses := true, named := ["errors.errorType"], apart := false, laid := [("errors.errorType", laid_errors_errorType)] }
def PolicyChainsSaid : Prop := policyChainsRow.holds Tryd.pinned (OpenSpec.ofChange policyChainsSpec)

/-- ITS FALSE NEIGHBOUR: 'it returns false'. Refute it at one input. -/
def policyChainsWrong : ChangeSpec := { name := "policyChains", fn := fun _ => fun
  | [d1, d2] => { results := [.lit (.bool false)], args := [d1, d2] }
  | _ => none }
def PolicyChainsWrongFalsely : Prop := policyChainsRow.holds Tryd.pinned (OpenSpec.ofChange policyChainsWrong)

/- THE SECOND FORM. 'bulk': how many values and letters a reading holds, each counted each time it is reached (what is shared counts as often as it is met; a slice's spare places count too). A statement '..UptoSaid' is the law's where the arguments, and the package variables that the reading takes, are together of bulk at most 1048576: NARROWER than '..Said'. Prove '..Said' where nothing that the law and all that it calls make is longer than what came in: it says more and counts as full. Else prove '..UptoSaid'. A law counts once. -/
mutual
def uptoBulk {H : Type} : DataW H → Nat
  | .lit (.string bytes) => bytes.length + 1
  | .lit _ => 1
  | .nil => 1
  | .ptr d => uptoBulk d + 1
  | .slice elems spare => uptoBulkAll elems + uptoBulkAll spare + 1
  | .agg parts => uptoBulkAll parts + 1
  | .iface _ d => uptoBulk d + 1
  | .map entries => uptoBulkEntries entries + 1
  | .held _ => 1
def uptoBulkAll {H : Type} : List (DataW H) → Nat
  | [] => 0
  | d :: r => uptoBulk d + uptoBulkAll r
def uptoBulkEntries {H : Type} : List (Lit × DataW H) → Nat
  | [] => 0
  | x :: r => uptoBulkEntry x + uptoBulkEntries r
def uptoBulkEntry {H : Type} : Lit × DataW H → Nat
  | (.string bytes, d) => bytes.length + uptoBulk d + 1
  | (_, d) => uptoBulk d + 1
 end
def uptoSmall : (H : Type) → List (DataW H) → Bool := fun _ ds => decide (uptoBulkAll ds ≤ 1048576)
def OpenSpec.upto (s : _root_.Go.ChangeSpec) : _root_.Go.OpenSpec := { _root_.Go.OpenSpec.ofChange s with cond := some uptoSmall }

/-- 'siltlaw07.DeltaTells', WHERE WHAT IT READS IS OF BULK AT MOST 1048576: true; the input reads as it did. -/
def deltaTellsUptoRow : OpenClaim := { program := "ytpnnmpdjgnbkhaadoor", sum := "ab666632e3acc332ce9c6fc59c44c490bedc8f8651401b9a0cebaed6706aae1a", func := "silt/siltlaw07.DeltaTells", spec := "deltaTells", inPlace := ["internal/reflectlite.ValueOf", "(internal/reflectlite.Value).Type", "(internal/reflectlite.Value).IsNil", "internal/reflectlite.TypeOf", "(internal/reflectlite.Value).Elem", "(internal/reflectlite.Value).Set"], unfollowed := true, recurses := true, named := ["errors.errorType"], apart := false, laid := [("errors.errorType", laid_errors_errorType)], narrowed := true }
def DeltaTellsUptoSaid : Prop := deltaTellsUptoRow.holds Tryd.pinned (OpenSpec.upto deltaTellsSpec)

/-- 'siltlaw07.DeltaBack', WHERE WHAT IT READS IS OF BULK AT MOST 1048576: true; the input reads as it did. -/
def deltaBackUptoRow : OpenClaim := { program := "ytpnnmpdjgnbkhaadoor", sum := "ab666632e3acc332ce9c6fc59c44c490bedc8f8651401b9a0cebaed6706aae1a", func := "silt/siltlaw07.DeltaBack", spec := "deltaBack", inPlace := ["internal/reflectlite.ValueOf", "(internal/reflectlite.Value).Type", "(internal/reflectlite.Value).IsNil", "internal/reflectlite.TypeOf", "(internal/reflectlite.Value).Elem", "(internal/reflectlite.Value).Set"], unfollowed := true, recurses := true, named := ["errors.errorType"], apart := false, laid := [("errors.errorType", laid_errors_errorType)], narrowed := true }
def DeltaBackUptoSaid : Prop := deltaBackUptoRow.holds Tryd.pinned (OpenSpec.upto deltaBackSpec)

/-- 'siltlaw07.DeltaLays', WHERE WHAT IT READS IS OF BULK AT MOST 1048576: true; the input reads as it did. -/
def deltaLaysUptoRow : OpenClaim := { program := "ytpnnmpdjgnbkhaadoor", sum := "ab666632e3acc332ce9c6fc59c44c490bedc8f8651401b9a0cebaed6706aae1a", func := "silt/siltlaw07.DeltaLays", spec := "deltaLays", inPlace := ["internal/reflectlite.ValueOf", "(internal/reflectlite.Value).Type", "(internal/reflectlite.Value).IsNil", "internal/reflectlite.TypeOf", "(internal/reflectlite.Value).Elem", "(internal/reflectlite.Value).Set"], unfollowed := true, recurses := true, named := ["errors.errorType"], apart := false, laid := [("errors.errorType", laid_errors_errorType)], narrowed := true }
def DeltaLaysUptoSaid : Prop := deltaLaysUptoRow.holds Tryd.pinned (OpenSpec.upto deltaLaysSpec)

/-- 'siltlaw07.DeltaTwice', WHERE WHAT IT READS IS OF BULK AT MOST 1048576: true; the input reads as it did. -/
def deltaTwiceUptoRow : OpenClaim := { program := "ytpnnmpdjgnbkhaadoor", sum := "ab666632e3acc332ce9c6fc59c44c490bedc8f8651401b9a0cebaed6706aae1a", func := "silt/siltlaw07.DeltaTwice", spec := "deltaTwice", inPlace := ["internal/reflectlite.ValueOf", "(internal/reflectlite.Value).Type", "(internal/reflectlite.Value).IsNil", "internal/reflectlite.TypeOf", "(internal/reflectlite.Value).Elem", "(internal/reflectlite.Value).Set"], unfollowed := true, recurses := true, named := ["errors.errorType"], apart := false, laid := [("errors.errorType", laid_errors_errorType)], narrowed := true }
def DeltaTwiceUptoSaid : Prop := deltaTwiceUptoRow.holds Tryd.pinned (OpenSpec.upto deltaTwiceSpec)

/-- 'siltlaw01.FaultKeeps', WHERE WHAT IT READS IS OF BULK AT MOST 1048576: true; the input reads as it did. -/
def faultKeepsUptoRow : OpenClaim := { program := "ytpnnmpdjgnbkhaadoor", sum := "ab666632e3acc332ce9c6fc59c44c490bedc8f8651401b9a0cebaed6706aae1a", func := "silt/siltlaw01.FaultKeeps", spec := "faultKeeps", inPlace := ["internal/reflectlite.ValueOf", "(internal/reflectlite.Value).Type", "(internal/reflectlite.Value).IsNil", "internal/reflectlite.TypeOf", "(internal/reflectlite.Value).Elem", "(internal/reflectlite.Value).Set"], unfollowed := true, recurses := true, named := ["errors.errorType"], apart := false, laid := [("errors.errorType", laid_errors_errorType)], narrowed := true }
def FaultKeepsUptoSaid : Prop := faultKeepsUptoRow.holds Tryd.pinned (OpenSpec.upto faultKeepsSpec)

/-- 'siltlaw01.FaultNone', WHERE WHAT IT READS IS OF BULK AT MOST 1048576: true; the input reads as it did. -/
def faultNoneUptoRow : OpenClaim := { program := "ytpnnmpdjgnbkhaadoor", sum := "ab666632e3acc332ce9c6fc59c44c490bedc8f8651401b9a0cebaed6706aae1a", func := "silt/siltlaw01.FaultNone", spec := "faultNone", inPlace := ["internal/reflectlite.ValueOf", "(internal/reflectlite.Value).Type", "(internal/reflectlite.Value).IsNil", "internal/reflectlite.TypeOf", "(internal/reflectlite.Value).Elem", "(internal/reflectlite.Value).Set"], unfollowed := true, recurses := true, named := ["errors.errorType"], apart := false, laid := [("errors.errorType", laid_errors_errorType)], narrowed := true }
def FaultNoneUptoSaid : Prop := faultNoneUptoRow.holds Tryd.pinned (OpenSpec.upto faultNoneSpec)

/-- 'siltlaw01.FaultTwo', WHERE WHAT IT READS IS OF BULK AT MOST 1048576: true; the input reads as it did. -/
def faultTwoUptoRow : OpenClaim := { program := "ytpnnmpdjgnbkhaadoor", sum := "ab666632e3acc332ce9c6fc59c44c490bedc8f8651401b9a0cebaed6706aae1a", func := "silt/siltlaw01.FaultTwo", spec := "faultTwo", inPlace := ["internal/reflectlite.ValueOf", "(internal/reflectlite.Value).Type", "(internal/reflectlite.Value).IsNil", "internal/reflectlite.TypeOf", "(internal/reflectlite.Value).Elem", "(internal/reflectlite.Value).Set"], unfollowed := true, recurses := true, named := ["errors.errorType"], apart := false, laid := [("errors.errorType", laid_errors_errorType)], narrowed := true }
def FaultTwoUptoSaid : Prop := faultTwoUptoRow.holds Tryd.pinned (OpenSpec.upto faultTwoSpec)

/-- 'siltlaw01.FaultTexts', WHERE WHAT IT READS IS OF BULK AT MOST 1048576: true; the input reads as it did. -/
def faultTextsUptoRow : OpenClaim := { program := "ytpnnmpdjgnbkhaadoor", sum := "ab666632e3acc332ce9c6fc59c44c490bedc8f8651401b9a0cebaed6706aae1a", func := "silt/siltlaw01.FaultTexts", spec := "faultTexts", inPlace := ["internal/reflectlite.ValueOf", "(internal/reflectlite.Value).Type", "(internal/reflectlite.Value).IsNil", "internal/reflectlite.TypeOf", "(internal/reflectlite.Value).Elem", "(internal/reflectlite.Value).Set"], unfollowed := true, recurses := true, named := ["errors.errorType"], apart := false, laid := [("errors.errorType", laid_errors_errorType)], narrowed := true }
def FaultTextsUptoSaid : Prop := faultTextsUptoRow.holds Tryd.pinned (OpenSpec.upto faultTextsSpec)

/-- 'siltlaw06.RegionCodes', WHERE WHAT IT READS IS OF BULK AT MOST 1048576: true; the input reads as it did. -/
def regionCodesUptoRow : OpenClaim := { program := "ytpnnmpdjgnbkhaadoor", sum := "ab666632e3acc332ce9c6fc59c44c490bedc8f8651401b9a0cebaed6706aae1a", func := "silt/siltlaw06.RegionCodes", spec := "regionCodes", inPlace := ["internal/reflectlite.ValueOf", "(internal/reflectlite.Value).Type", "(internal/reflectlite.Value).IsNil", "internal/reflectlite.TypeOf", "(internal/reflectlite.Value).Elem", "(internal/reflectlite.Value).Set"], unfollowed := true, recurses := true, named := ["errors.errorType"], apart := false, laid := [("errors.errorType", laid_errors_errorType)], narrowed := true }
def RegionCodesUptoSaid : Prop := regionCodesUptoRow.holds Tryd.pinned (OpenSpec.upto regionCodesSpec)

/-- 'siltlaw06.RegionTorn', WHERE WHAT IT READS IS OF BULK AT MOST 1048576: true; the input reads as it did. -/
def regionTornUptoRow : OpenClaim := { program := "ytpnnmpdjgnbkhaadoor", sum := "ab666632e3acc332ce9c6fc59c44c490bedc8f8651401b9a0cebaed6706aae1a", func := "silt/siltlaw06.RegionTorn", spec := "regionTorn", inPlace := ["internal/reflectlite.ValueOf", "(internal/reflectlite.Value).Type", "(internal/reflectlite.Value).IsNil", "internal/reflectlite.TypeOf", "(internal/reflectlite.Value).Elem", "(internal/reflectlite.Value).Set"], unfollowed := true, recurses := true, named := ["errors.errorType"], apart := false, laid := [("errors.errorType", laid_errors_errorType)], narrowed := true }
def RegionTornUptoSaid : Prop := regionTornUptoRow.holds Tryd.pinned (OpenSpec.upto regionTornSpec)

/-- 'siltlaw06.RegionPlaces', WHERE WHAT IT READS IS OF BULK AT MOST 1048576: true; the input reads as it did. -/
def regionPlacesUptoRow : OpenClaim := { program := "ytpnnmpdjgnbkhaadoor", sum := "ab666632e3acc332ce9c6fc59c44c490bedc8f8651401b9a0cebaed6706aae1a", func := "silt/siltlaw06.RegionPlaces", spec := "regionPlaces", inPlace := ["internal/reflectlite.ValueOf", "(internal/reflectlite.Value).Type", "(internal/reflectlite.Value).IsNil", "internal/reflectlite.TypeOf", "(internal/reflectlite.Value).Elem", "(internal/reflectlite.Value).Set"], unfollowed := true, recurses := true, named := ["errors.errorType"], apart := false, laid := [("errors.errorType", laid_errors_errorType)], narrowed := true }
def RegionPlacesUptoSaid : Prop := regionPlacesUptoRow.holds Tryd.pinned (OpenSpec.upto regionPlacesSpec)

/-- 'siltlaw06.RegionRoots', WHERE WHAT IT READS IS OF BULK AT MOST 1048576: true; the input reads as it did. -/
def regionRootsUptoRow : OpenClaim := { program := "ytpnnmpdjgnbkhaadoor", sum := "ab666632e3acc332ce9c6fc59c44c490bedc8f8651401b9a0cebaed6706aae1a", func := "silt/siltlaw06.RegionRoots", spec := "regionRoots", inPlace := ["internal/reflectlite.ValueOf", "(internal/reflectlite.Value).Type", "(internal/reflectlite.Value).IsNil", "internal/reflectlite.TypeOf", "(internal/reflectlite.Value).Elem", "(internal/reflectlite.Value).Set"], unfollowed := true, recurses := true, named := ["errors.errorType"], apart := false, laid := [("errors.errorType", laid_errors_errorType)], narrowed := true }
def RegionRootsUptoSaid : Prop := regionRootsUptoRow.holds Tryd.pinned (OpenSpec.upto regionRootsSpec)

/-- 'siltlaw18.PolicyMakes', WHERE WHAT IT READS IS OF BULK AT MOST 1048576: true; the input reads as it did. -/
def policyMakesUptoRow : OpenClaim := { program := "ytpnnmpdjgnbkhaadoor", sum := "ab666632e3acc332ce9c6fc59c44c490bedc8f8651401b9a0cebaed6706aae1a", func := "silt/siltlaw18.PolicyMakes", spec := "policyMakes", inPlace := ["internal/reflectlite.ValueOf", "(internal/reflectlite.Value).Type", "(internal/reflectlite.Value).IsNil", "internal/reflectlite.TypeOf", "(internal/reflectlite.Value).Elem", "(internal/reflectlite.Value).Set"], unfollowed := true, recurses := true, named := ["errors.errorType"], apart := false, laid := [("errors.errorType", laid_errors_errorType)], narrowed := true }
def PolicyMakesUptoSaid : Prop := policyMakesUptoRow.holds Tryd.pinned (OpenSpec.upto policyMakesSpec)

/-- 'siltlaw10.MapBack', WHERE WHAT IT READS IS OF BULK AT MOST 1048576: true; the input reads as it did. -/
def mapBackUptoRow : OpenClaim := { program := "ytpnnmpdjgnbkhaadoor", sum := "ab666632e3acc332ce9c6fc59c44c490bedc8f8651401b9a0cebaed6706aae1a", func := "silt/siltlaw10.MapBack", spec := "mapBack", inPlace := ["internal/reflectlite.ValueOf", "(internal/reflectlite.Value).Type", "(internal/reflectlite.Value).IsNil", "internal/reflectlite.TypeOf", "(internal/reflectlite.Value).Elem", "(internal/reflectlite.Value).Set"], unfollowed := true, recurses := true, named := ["errors.errorType"], apart := false, laid := [("errors.errorType", laid_errors_errorType)], narrowed := true }
def MapBackUptoSaid : Prop := mapBackUptoRow.holds Tryd.pinned (OpenSpec.upto mapBackSpec)

/-- 'siltlaw10.MapPages', WHERE WHAT IT READS IS OF BULK AT MOST 1048576: true; the input reads as it did. -/
def mapPagesUptoRow : OpenClaim := { program := "ytpnnmpdjgnbkhaadoor", sum := "ab666632e3acc332ce9c6fc59c44c490bedc8f8651401b9a0cebaed6706aae1a", func := "silt/siltlaw10.MapPages", spec := "mapPages", inPlace := ["internal/reflectlite.ValueOf", "(internal/reflectlite.Value).Type", "(internal/reflectlite.Value).IsNil", "internal/reflectlite.TypeOf", "(internal/reflectlite.Value).Elem", "(internal/reflectlite.Value).Set"], unfollowed := true, recurses := true, named := ["errors.errorType"], apart := false, laid := [("errors.errorType", laid_errors_errorType)], narrowed := true }
def MapPagesUptoSaid : Prop := mapPagesUptoRow.holds Tryd.pinned (OpenSpec.upto mapPagesSpec)

/-- 'siltlaw08.FoldTells', WHERE WHAT IT READS IS OF BULK AT MOST 1048576: true; the input reads as it did. -/
def foldTellsUptoRow : OpenClaim := { program := "ytpnnmpdjgnbkhaadoor", sum := "ab666632e3acc332ce9c6fc59c44c490bedc8f8651401b9a0cebaed6706aae1a", func := "silt/siltlaw08.FoldTells", spec := "foldTells", inPlace := ["internal/reflectlite.TypeOf", "internal/reflectlite.ValueOf", "(internal/reflectlite.Value).Type", "(internal/reflectlite.Value).IsNil", "(internal/reflectlite.Value).Elem", "(internal/reflectlite.Value).Set"], unfollowed := true, recurses := true, named := ["errors.errorType"], apart := false, laid := [("errors.errorType", laid_errors_errorType)], narrowed := true }
def FoldTellsUptoSaid : Prop := foldTellsUptoRow.holds Tryd.pinned (OpenSpec.upto foldTellsSpec)

/-- 'siltlaw08.FoldMore', WHERE WHAT IT READS IS OF BULK AT MOST 1048576: true; the input reads as it did. -/
def foldMoreUptoRow : OpenClaim := { program := "ytpnnmpdjgnbkhaadoor", sum := "ab666632e3acc332ce9c6fc59c44c490bedc8f8651401b9a0cebaed6706aae1a", func := "silt/siltlaw08.FoldMore", spec := "foldMore", inPlace := ["internal/reflectlite.TypeOf", "internal/reflectlite.ValueOf", "(internal/reflectlite.Value).Type", "(internal/reflectlite.Value).IsNil", "(internal/reflectlite.Value).Elem", "(internal/reflectlite.Value).Set"], unfollowed := true, recurses := true, named := ["errors.errorType"], apart := false, laid := [("errors.errorType", laid_errors_errorType)], narrowed := true }
def FoldMoreUptoSaid : Prop := foldMoreUptoRow.holds Tryd.pinned (OpenSpec.upto foldMoreSpec)

/-- 'siltlaw08.FoldWhole', WHERE WHAT IT READS IS OF BULK AT MOST 1048576: true; the input reads as it did. -/
def foldWholeUptoRow : OpenClaim := { program := "ytpnnmpdjgnbkhaadoor", sum := "ab666632e3acc332ce9c6fc59c44c490bedc8f8651401b9a0cebaed6706aae1a", func := "silt/siltlaw08.FoldWhole", spec := "foldWhole", inPlace := ["internal/reflectlite.TypeOf", "internal/reflectlite.ValueOf", "(internal/reflectlite.Value).Type", "(internal/reflectlite.Value).IsNil", "(internal/reflectlite.Value).Elem", "(internal/reflectlite.Value).Set"], unfollowed := true, recurses := true, named := ["errors.errorType"], apart := false, laid := [("errors.errorType", laid_errors_errorType)], narrowed := true }
def FoldWholeUptoSaid : Prop := foldWholeUptoRow.holds Tryd.pinned (OpenSpec.upto foldWholeSpec)

/-- 'siltlaw18.PolicyChains', WHERE WHAT IT READS IS OF BULK AT MOST 1048576: true; the input reads as it did. -/
def policyChainsUptoRow : OpenClaim := { program := "ytpnnmpdjgnbkhaadoor", sum := "ab666632e3acc332ce9c6fc59c44c490bedc8f8651401b9a0cebaed6706aae1a", func := "silt/siltlaw18.PolicyChains", spec := "policyChains", inPlace := ["internal/reflectlite.TypeOf", "internal/reflectlite.ValueOf", "(internal/reflectlite.Value).Type", "(internal/reflectlite.Value).IsNil", "(internal/reflectlite.Value).Elem", "(internal/reflectlite.Value).Set"], unfollowed := true, recurses := true, named := ["errors.errorType"], apart := false, laid := [("errors.errorType", laid_errors_errorType)], narrowed := true }
def PolicyChainsUptoSaid : Prop := policyChainsUptoRow.holds Tryd.pinned (OpenSpec.upto policyChainsSpec)

end Rows
end Go.Proofs.YtpnnmpdjgnbkhaaDoor
