/-
  DERIVED. GIVEN WITH THE SEED: THE CARDS: each row of YtpnnmpdjgnbkhaaDoorRows.lean that lists a variable, with what it lists TIED to the program's text (the seventh form; the later family's looks); each row that meets fmt, with fmt's text TOLD by the authors' own Lean function (tested against real Go, not proved from fmt's source: count such statements apart). THE CARD IS WHAT COUNTS. Prove the row's statement (the work); the ties are given (YtpnnmpdjgnbkhaaDoorTie.lean); close each card by the builder's one call (the guide's Derived/Test/ToyasCard.lean, 'card_holds'). Laid BY PROGRAM, IN A SANDBOX (cutbox-door.mjs). By AI agents, Wed Nov 11 2026. No macro, syntax, notation, axiom, sorry.
-/
import Derived.Test.YtpnnmpdjgnbkhaaDoorRows
import GoSem.ClaimSeven
namespace Go.Proofs.YtpnnmpdjgnbkhaaDoor
namespace Rows

/-- THE TIED CARD OF 'siltlaw07.DeltaTells'. -/
def deltaTellsCard : Claim7 := { stood := { row := deltaTellsRow, standIns := [], harness := (true, "3f18efe1ff10dcb501f649e39697ee1e597a3b577f0182f24a5f067c91f962fa"), looks := true }, kinds := [], alts := [], laidByText := true, laidKinds := [.handle], laidTests := true, laidLooks := .later }
def DeltaTellsCardSaid : Prop := Claim7.holds Tryd.pinned (.plain (OpenSpec.ofChange deltaTellsSpec)) deltaTellsCard

/-- THE TIED CARD OF 'siltlaw07.DeltaBack'. -/
def deltaBackCard : Claim7 := { stood := { row := deltaBackRow, standIns := [], harness := (true, "3f18efe1ff10dcb501f649e39697ee1e597a3b577f0182f24a5f067c91f962fa"), looks := true }, kinds := [], alts := [], laidByText := true, laidKinds := [.handle], laidTests := true, laidLooks := .later }
def DeltaBackCardSaid : Prop := Claim7.holds Tryd.pinned (.plain (OpenSpec.ofChange deltaBackSpec)) deltaBackCard

/-- THE TIED CARD OF 'siltlaw07.DeltaLays'. -/
def deltaLaysCard : Claim7 := { stood := { row := deltaLaysRow, standIns := [], harness := (true, "3f18efe1ff10dcb501f649e39697ee1e597a3b577f0182f24a5f067c91f962fa"), looks := true }, kinds := [], alts := [], laidByText := true, laidKinds := [.handle], laidTests := true, laidLooks := .later }
def DeltaLaysCardSaid : Prop := Claim7.holds Tryd.pinned (.plain (OpenSpec.ofChange deltaLaysSpec)) deltaLaysCard

/-- THE TIED CARD OF 'siltlaw07.DeltaTwice'. -/
def deltaTwiceCard : Claim7 := { stood := { row := deltaTwiceRow, standIns := [], harness := (true, "3f18efe1ff10dcb501f649e39697ee1e597a3b577f0182f24a5f067c91f962fa"), looks := true }, kinds := [], alts := [], laidByText := true, laidKinds := [.handle], laidTests := true, laidLooks := .later }
def DeltaTwiceCardSaid : Prop := Claim7.holds Tryd.pinned (.plain (OpenSpec.ofChange deltaTwiceSpec)) deltaTwiceCard

/-- THE TIED CARD OF 'siltlaw01.FaultKeeps'. -/
def faultKeepsCard : Claim7 := { stood := { row := faultKeepsRow, standIns := [], harness := (true, "3f18efe1ff10dcb501f649e39697ee1e597a3b577f0182f24a5f067c91f962fa"), looks := true }, kinds := [], alts := [], laidByText := true, laidKinds := [.handle], laidTests := true, laidLooks := .later }
def FaultKeepsCardSaid : Prop := Claim7.holds Tryd.pinned (.plain (OpenSpec.ofChange faultKeepsSpec)) faultKeepsCard

/-- THE TIED CARD OF 'siltlaw01.FaultNone'. -/
def faultNoneCard : Claim7 := { stood := { row := faultNoneRow, standIns := [], harness := (true, "3f18efe1ff10dcb501f649e39697ee1e597a3b577f0182f24a5f067c91f962fa"), looks := true }, kinds := [], alts := [], laidByText := true, laidKinds := [.handle], laidTests := true, laidLooks := .later }
def FaultNoneCardSaid : Prop := Claim7.holds Tryd.pinned (.plain (OpenSpec.ofChange faultNoneSpec)) faultNoneCard

/-- THE TIED CARD OF 'siltlaw01.FaultTwo'. -/
def faultTwoCard : Claim7 := { stood := { row := faultTwoRow, standIns := [], harness := (true, "3f18efe1ff10dcb501f649e39697ee1e597a3b577f0182f24a5f067c91f962fa"), looks := true }, kinds := [], alts := [], laidByText := true, laidKinds := [.handle], laidTests := true, laidLooks := .later }
def FaultTwoCardSaid : Prop := Claim7.holds Tryd.pinned (.plain (OpenSpec.ofChange faultTwoSpec)) faultTwoCard

/-- THE TIED CARD OF 'siltlaw01.FaultTexts'. -/
def faultTextsCard : Claim7 := { stood := { row := faultTextsRow, standIns := [], harness := (true, "3f18efe1ff10dcb501f649e39697ee1e597a3b577f0182f24a5f067c91f962fa"), looks := true }, kinds := [], alts := [], laidByText := true, laidKinds := [.handle], laidTests := true, laidLooks := .later }
def FaultTextsCardSaid : Prop := Claim7.holds Tryd.pinned (.plain (OpenSpec.ofChange faultTextsSpec)) faultTextsCard

/-- THE TIED CARD OF 'siltlaw06.RegionCodes'. -/
def regionCodesCard : Claim7 := { stood := { row := regionCodesRow, standIns := [], harness := (true, "3f18efe1ff10dcb501f649e39697ee1e597a3b577f0182f24a5f067c91f962fa"), looks := true }, kinds := [], alts := [], laidByText := true, laidKinds := [.handle], laidTests := true, laidLooks := .later }
def RegionCodesCardSaid : Prop := Claim7.holds Tryd.pinned (.plain (OpenSpec.ofChange regionCodesSpec)) regionCodesCard

/-- THE TIED CARD OF 'siltlaw06.RegionTorn'. -/
def regionTornCard : Claim7 := { stood := { row := regionTornRow, standIns := [], harness := (true, "3f18efe1ff10dcb501f649e39697ee1e597a3b577f0182f24a5f067c91f962fa"), looks := true }, kinds := [], alts := [], laidByText := true, laidKinds := [.handle], laidTests := true, laidLooks := .later }
def RegionTornCardSaid : Prop := Claim7.holds Tryd.pinned (.plain (OpenSpec.ofChange regionTornSpec)) regionTornCard

/-- THE TIED CARD OF 'siltlaw06.RegionPlaces'. -/
def regionPlacesCard : Claim7 := { stood := { row := regionPlacesRow, standIns := [], harness := (true, "3f18efe1ff10dcb501f649e39697ee1e597a3b577f0182f24a5f067c91f962fa"), looks := true }, kinds := [], alts := [], laidByText := true, laidKinds := [.handle], laidTests := true, laidLooks := .later }
def RegionPlacesCardSaid : Prop := Claim7.holds Tryd.pinned (.plain (OpenSpec.ofChange regionPlacesSpec)) regionPlacesCard

/-- THE TIED CARD OF 'siltlaw06.RegionRoots'. -/
def regionRootsCard : Claim7 := { stood := { row := regionRootsRow, standIns := [], harness := (true, "3f18efe1ff10dcb501f649e39697ee1e597a3b577f0182f24a5f067c91f962fa"), looks := true }, kinds := [], alts := [], laidByText := true, laidKinds := [.handle], laidTests := true, laidLooks := .later }
def RegionRootsCardSaid : Prop := Claim7.holds Tryd.pinned (.plain (OpenSpec.ofChange regionRootsSpec)) regionRootsCard

/-- THE TIED CARD OF 'siltlaw18.PolicyMakes'. -/
def policyMakesCard : Claim7 := { stood := { row := policyMakesRow, standIns := [], harness := (true, "3f18efe1ff10dcb501f649e39697ee1e597a3b577f0182f24a5f067c91f962fa"), looks := true }, kinds := [], alts := [], laidByText := true, laidKinds := [.handle], laidTests := true, laidLooks := .later }
def PolicyMakesCardSaid : Prop := Claim7.holds Tryd.pinned (.plain (OpenSpec.ofChange policyMakesSpec)) policyMakesCard

/-- THE TIED CARD OF 'siltlaw10.MapBack'. -/
def mapBackCard : Claim7 := { stood := { row := mapBackRow, standIns := [], harness := (true, "3f18efe1ff10dcb501f649e39697ee1e597a3b577f0182f24a5f067c91f962fa"), looks := true }, kinds := [], alts := [], laidByText := true, laidKinds := [.handle], laidTests := true, laidLooks := .later }
def MapBackCardSaid : Prop := Claim7.holds Tryd.pinned (.plain (OpenSpec.ofChange mapBackSpec)) mapBackCard

/-- THE TIED CARD OF 'siltlaw10.MapPages'. -/
def mapPagesCard : Claim7 := { stood := { row := mapPagesRow, standIns := [], harness := (true, "3f18efe1ff10dcb501f649e39697ee1e597a3b577f0182f24a5f067c91f962fa"), looks := true }, kinds := [], alts := [], laidByText := true, laidKinds := [.handle], laidTests := true, laidLooks := .later }
def MapPagesCardSaid : Prop := Claim7.holds Tryd.pinned (.plain (OpenSpec.ofChange mapPagesSpec)) mapPagesCard

/-- THE TIED CARD OF 'siltlaw08.FoldTells'. -/
def foldTellsCard : Claim7 := { stood := { row := foldTellsRow, standIns := [], harness := (true, "3f18efe1ff10dcb501f649e39697ee1e597a3b577f0182f24a5f067c91f962fa"), looks := true }, kinds := [], alts := [], laidByText := true, laidKinds := [.handle], laidTests := true, laidLooks := .later }
def FoldTellsCardSaid : Prop := Claim7.holds Tryd.pinned (.plain (OpenSpec.ofChange foldTellsSpec)) foldTellsCard

/-- THE TIED CARD OF 'siltlaw08.FoldMore'. -/
def foldMoreCard : Claim7 := { stood := { row := foldMoreRow, standIns := [], harness := (true, "3f18efe1ff10dcb501f649e39697ee1e597a3b577f0182f24a5f067c91f962fa"), looks := true }, kinds := [], alts := [], laidByText := true, laidKinds := [.handle], laidTests := true, laidLooks := .later }
def FoldMoreCardSaid : Prop := Claim7.holds Tryd.pinned (.plain (OpenSpec.ofChange foldMoreSpec)) foldMoreCard

/-- THE TIED CARD OF 'siltlaw08.FoldWhole'. -/
def foldWholeCard : Claim7 := { stood := { row := foldWholeRow, standIns := [], harness := (true, "3f18efe1ff10dcb501f649e39697ee1e597a3b577f0182f24a5f067c91f962fa"), looks := true }, kinds := [], alts := [], laidByText := true, laidKinds := [.handle], laidTests := true, laidLooks := .later }
def FoldWholeCardSaid : Prop := Claim7.holds Tryd.pinned (.plain (OpenSpec.ofChange foldWholeSpec)) foldWholeCard

/-- THE TIED CARD OF 'siltlaw18.PolicyChains'. -/
def policyChainsCard : Claim7 := { stood := { row := policyChainsRow, standIns := [], harness := (true, "3f18efe1ff10dcb501f649e39697ee1e597a3b577f0182f24a5f067c91f962fa"), looks := true }, kinds := [], alts := [], laidByText := true, laidKinds := [.handle], laidTests := true, laidLooks := .later }
def PolicyChainsCardSaid : Prop := Claim7.holds Tryd.pinned (.plain (OpenSpec.ofChange policyChainsSpec)) policyChainsCard

/-- THE SECOND FORM's CARD OF 'siltlaw07.DeltaTells'. -/
def deltaTellsUptoCard : Claim7 := { stood := { row := deltaTellsUptoRow, standIns := [], harness := (true, "3f18efe1ff10dcb501f649e39697ee1e597a3b577f0182f24a5f067c91f962fa"), looks := true }, kinds := [], alts := [], laidByText := true, laidKinds := [.handle], laidTests := true, laidLooks := .later }
def DeltaTellsUptoCardSaid : Prop := Claim7.holds Tryd.pinned (.plain (OpenSpec.upto deltaTellsSpec)) deltaTellsUptoCard

/-- THE SECOND FORM's CARD OF 'siltlaw07.DeltaBack'. -/
def deltaBackUptoCard : Claim7 := { stood := { row := deltaBackUptoRow, standIns := [], harness := (true, "3f18efe1ff10dcb501f649e39697ee1e597a3b577f0182f24a5f067c91f962fa"), looks := true }, kinds := [], alts := [], laidByText := true, laidKinds := [.handle], laidTests := true, laidLooks := .later }
def DeltaBackUptoCardSaid : Prop := Claim7.holds Tryd.pinned (.plain (OpenSpec.upto deltaBackSpec)) deltaBackUptoCard

/-- THE SECOND FORM's CARD OF 'siltlaw07.DeltaLays'. -/
def deltaLaysUptoCard : Claim7 := { stood := { row := deltaLaysUptoRow, standIns := [], harness := (true, "3f18efe1ff10dcb501f649e39697ee1e597a3b577f0182f24a5f067c91f962fa"), looks := true }, kinds := [], alts := [], laidByText := true, laidKinds := [.handle], laidTests := true, laidLooks := .later }
def DeltaLaysUptoCardSaid : Prop := Claim7.holds Tryd.pinned (.plain (OpenSpec.upto deltaLaysSpec)) deltaLaysUptoCard

/-- THE SECOND FORM's CARD OF 'siltlaw07.DeltaTwice'. -/
def deltaTwiceUptoCard : Claim7 := { stood := { row := deltaTwiceUptoRow, standIns := [], harness := (true, "3f18efe1ff10dcb501f649e39697ee1e597a3b577f0182f24a5f067c91f962fa"), looks := true }, kinds := [], alts := [], laidByText := true, laidKinds := [.handle], laidTests := true, laidLooks := .later }
def DeltaTwiceUptoCardSaid : Prop := Claim7.holds Tryd.pinned (.plain (OpenSpec.upto deltaTwiceSpec)) deltaTwiceUptoCard

/-- THE SECOND FORM's CARD OF 'siltlaw01.FaultKeeps'. -/
def faultKeepsUptoCard : Claim7 := { stood := { row := faultKeepsUptoRow, standIns := [], harness := (true, "3f18efe1ff10dcb501f649e39697ee1e597a3b577f0182f24a5f067c91f962fa"), looks := true }, kinds := [], alts := [], laidByText := true, laidKinds := [.handle], laidTests := true, laidLooks := .later }
def FaultKeepsUptoCardSaid : Prop := Claim7.holds Tryd.pinned (.plain (OpenSpec.upto faultKeepsSpec)) faultKeepsUptoCard

/-- THE SECOND FORM's CARD OF 'siltlaw01.FaultNone'. -/
def faultNoneUptoCard : Claim7 := { stood := { row := faultNoneUptoRow, standIns := [], harness := (true, "3f18efe1ff10dcb501f649e39697ee1e597a3b577f0182f24a5f067c91f962fa"), looks := true }, kinds := [], alts := [], laidByText := true, laidKinds := [.handle], laidTests := true, laidLooks := .later }
def FaultNoneUptoCardSaid : Prop := Claim7.holds Tryd.pinned (.plain (OpenSpec.upto faultNoneSpec)) faultNoneUptoCard

/-- THE SECOND FORM's CARD OF 'siltlaw01.FaultTwo'. -/
def faultTwoUptoCard : Claim7 := { stood := { row := faultTwoUptoRow, standIns := [], harness := (true, "3f18efe1ff10dcb501f649e39697ee1e597a3b577f0182f24a5f067c91f962fa"), looks := true }, kinds := [], alts := [], laidByText := true, laidKinds := [.handle], laidTests := true, laidLooks := .later }
def FaultTwoUptoCardSaid : Prop := Claim7.holds Tryd.pinned (.plain (OpenSpec.upto faultTwoSpec)) faultTwoUptoCard

/-- THE SECOND FORM's CARD OF 'siltlaw01.FaultTexts'. -/
def faultTextsUptoCard : Claim7 := { stood := { row := faultTextsUptoRow, standIns := [], harness := (true, "3f18efe1ff10dcb501f649e39697ee1e597a3b577f0182f24a5f067c91f962fa"), looks := true }, kinds := [], alts := [], laidByText := true, laidKinds := [.handle], laidTests := true, laidLooks := .later }
def FaultTextsUptoCardSaid : Prop := Claim7.holds Tryd.pinned (.plain (OpenSpec.upto faultTextsSpec)) faultTextsUptoCard

/-- THE SECOND FORM's CARD OF 'siltlaw06.RegionCodes'. -/
def regionCodesUptoCard : Claim7 := { stood := { row := regionCodesUptoRow, standIns := [], harness := (true, "3f18efe1ff10dcb501f649e39697ee1e597a3b577f0182f24a5f067c91f962fa"), looks := true }, kinds := [], alts := [], laidByText := true, laidKinds := [.handle], laidTests := true, laidLooks := .later }
def RegionCodesUptoCardSaid : Prop := Claim7.holds Tryd.pinned (.plain (OpenSpec.upto regionCodesSpec)) regionCodesUptoCard

/-- THE SECOND FORM's CARD OF 'siltlaw06.RegionTorn'. -/
def regionTornUptoCard : Claim7 := { stood := { row := regionTornUptoRow, standIns := [], harness := (true, "3f18efe1ff10dcb501f649e39697ee1e597a3b577f0182f24a5f067c91f962fa"), looks := true }, kinds := [], alts := [], laidByText := true, laidKinds := [.handle], laidTests := true, laidLooks := .later }
def RegionTornUptoCardSaid : Prop := Claim7.holds Tryd.pinned (.plain (OpenSpec.upto regionTornSpec)) regionTornUptoCard

/-- THE SECOND FORM's CARD OF 'siltlaw06.RegionPlaces'. -/
def regionPlacesUptoCard : Claim7 := { stood := { row := regionPlacesUptoRow, standIns := [], harness := (true, "3f18efe1ff10dcb501f649e39697ee1e597a3b577f0182f24a5f067c91f962fa"), looks := true }, kinds := [], alts := [], laidByText := true, laidKinds := [.handle], laidTests := true, laidLooks := .later }
def RegionPlacesUptoCardSaid : Prop := Claim7.holds Tryd.pinned (.plain (OpenSpec.upto regionPlacesSpec)) regionPlacesUptoCard

/-- THE SECOND FORM's CARD OF 'siltlaw06.RegionRoots'. -/
def regionRootsUptoCard : Claim7 := { stood := { row := regionRootsUptoRow, standIns := [], harness := (true, "3f18efe1ff10dcb501f649e39697ee1e597a3b577f0182f24a5f067c91f962fa"), looks := true }, kinds := [], alts := [], laidByText := true, laidKinds := [.handle], laidTests := true, laidLooks := .later }
def RegionRootsUptoCardSaid : Prop := Claim7.holds Tryd.pinned (.plain (OpenSpec.upto regionRootsSpec)) regionRootsUptoCard

/-- THE SECOND FORM's CARD OF 'siltlaw18.PolicyMakes'. -/
def policyMakesUptoCard : Claim7 := { stood := { row := policyMakesUptoRow, standIns := [], harness := (true, "3f18efe1ff10dcb501f649e39697ee1e597a3b577f0182f24a5f067c91f962fa"), looks := true }, kinds := [], alts := [], laidByText := true, laidKinds := [.handle], laidTests := true, laidLooks := .later }
def PolicyMakesUptoCardSaid : Prop := Claim7.holds Tryd.pinned (.plain (OpenSpec.upto policyMakesSpec)) policyMakesUptoCard

/-- THE SECOND FORM's CARD OF 'siltlaw10.MapBack'. -/
def mapBackUptoCard : Claim7 := { stood := { row := mapBackUptoRow, standIns := [], harness := (true, "3f18efe1ff10dcb501f649e39697ee1e597a3b577f0182f24a5f067c91f962fa"), looks := true }, kinds := [], alts := [], laidByText := true, laidKinds := [.handle], laidTests := true, laidLooks := .later }
def MapBackUptoCardSaid : Prop := Claim7.holds Tryd.pinned (.plain (OpenSpec.upto mapBackSpec)) mapBackUptoCard

/-- THE SECOND FORM's CARD OF 'siltlaw10.MapPages'. -/
def mapPagesUptoCard : Claim7 := { stood := { row := mapPagesUptoRow, standIns := [], harness := (true, "3f18efe1ff10dcb501f649e39697ee1e597a3b577f0182f24a5f067c91f962fa"), looks := true }, kinds := [], alts := [], laidByText := true, laidKinds := [.handle], laidTests := true, laidLooks := .later }
def MapPagesUptoCardSaid : Prop := Claim7.holds Tryd.pinned (.plain (OpenSpec.upto mapPagesSpec)) mapPagesUptoCard

/-- THE SECOND FORM's CARD OF 'siltlaw08.FoldTells'. -/
def foldTellsUptoCard : Claim7 := { stood := { row := foldTellsUptoRow, standIns := [], harness := (true, "3f18efe1ff10dcb501f649e39697ee1e597a3b577f0182f24a5f067c91f962fa"), looks := true }, kinds := [], alts := [], laidByText := true, laidKinds := [.handle], laidTests := true, laidLooks := .later }
def FoldTellsUptoCardSaid : Prop := Claim7.holds Tryd.pinned (.plain (OpenSpec.upto foldTellsSpec)) foldTellsUptoCard

/-- THE SECOND FORM's CARD OF 'siltlaw08.FoldMore'. -/
def foldMoreUptoCard : Claim7 := { stood := { row := foldMoreUptoRow, standIns := [], harness := (true, "3f18efe1ff10dcb501f649e39697ee1e597a3b577f0182f24a5f067c91f962fa"), looks := true }, kinds := [], alts := [], laidByText := true, laidKinds := [.handle], laidTests := true, laidLooks := .later }
def FoldMoreUptoCardSaid : Prop := Claim7.holds Tryd.pinned (.plain (OpenSpec.upto foldMoreSpec)) foldMoreUptoCard

/-- THE SECOND FORM's CARD OF 'siltlaw08.FoldWhole'. -/
def foldWholeUptoCard : Claim7 := { stood := { row := foldWholeUptoRow, standIns := [], harness := (true, "3f18efe1ff10dcb501f649e39697ee1e597a3b577f0182f24a5f067c91f962fa"), looks := true }, kinds := [], alts := [], laidByText := true, laidKinds := [.handle], laidTests := true, laidLooks := .later }
def FoldWholeUptoCardSaid : Prop := Claim7.holds Tryd.pinned (.plain (OpenSpec.upto foldWholeSpec)) foldWholeUptoCard

/-- THE SECOND FORM's CARD OF 'siltlaw18.PolicyChains'. -/
def policyChainsUptoCard : Claim7 := { stood := { row := policyChainsUptoRow, standIns := [], harness := (true, "3f18efe1ff10dcb501f649e39697ee1e597a3b577f0182f24a5f067c91f962fa"), looks := true }, kinds := [], alts := [], laidByText := true, laidKinds := [.handle], laidTests := true, laidLooks := .later }
def PolicyChainsUptoCardSaid : Prop := Claim7.holds Tryd.pinned (.plain (OpenSpec.upto policyChainsSpec)) policyChainsUptoCard
end Rows
end Go.Proofs.YtpnnmpdjgnbkhaaDoor
