/-
  DERIVED. GIVEN WITH THE SEED: THE CARDS: each row of YtbhnkjnjeifdhaaDoorRows.lean that lists a variable, with what it lists TIED to the program's text (the seventh form; the later family's looks); each row that meets fmt, with fmt's text TOLD by the authors' own Lean function (tested against real Go, not proved from fmt's source: count such statements apart). THE CARD IS WHAT COUNTS. Prove the row's statement (the work); the ties are given (YtbhnkjnjeifdhaaDoorTie.lean); close each card by the builder's one call (the guide's Derived/Test/ToyasCard.lean, 'card_holds'). Laid BY PROGRAM, IN A SANDBOX (cutbox-door.mjs). By AI agents, Wed Nov 11 2026. No macro, syntax, notation, axiom, sorry.
-/
import Derived.Test.YtbhnkjnjeifdhaaDoorRows
import GoSem.ClaimSeven
namespace Go.Proofs.YtbhnkjnjeifdhaaDoor
namespace Rows

/-- THE TIED CARD OF 'siltlaw19.AnchorNone'. -/
def anchorNoneCard : Claim7 := { stood := { row := anchorNoneRow, standIns := [], harness := (true, "298d87c01f07204a6d939bb18c76ca628943f5414468ab72eb889f6340469314"), looks := true }, kinds := [], alts := [], laidByText := true, laidKinds := [.handle], laidTests := true, laidLooks := .later }
def AnchorNoneCardSaid : Prop := Claim7.holds Tryd.pinned (.plain (OpenSpec.ofChange anchorNoneSpec)) anchorNoneCard

/-- THE TIED CARD OF 'siltlaw14.JournalApart'. -/
def journalApartCard : Claim7 := { stood := { row := journalApartRow, standIns := [], harness := (true, "298d87c01f07204a6d939bb18c76ca628943f5414468ab72eb889f6340469314"), looks := true }, kinds := [], alts := [], laidByText := true, laidKinds := [.handle], laidTests := true, laidLooks := .later }
def JournalApartCardSaid : Prop := Claim7.holds Tryd.pinned (.plain (OpenSpec.ofChange journalApartSpec)) journalApartCard

/-- THE TIED CARD OF 'siltlaw14.JournalRoom'. -/
def journalRoomCard : Claim7 := { stood := { row := journalRoomRow, standIns := [], harness := (true, "298d87c01f07204a6d939bb18c76ca628943f5414468ab72eb889f6340469314"), looks := true }, kinds := [], alts := [], laidByText := true, laidKinds := [.handle], laidTests := true, laidLooks := .later }
def JournalRoomCardSaid : Prop := Claim7.holds Tryd.pinned (.plain (OpenSpec.ofChange journalRoomSpec)) journalRoomCard

/-- THE TIED CARD OF 'siltlaw14.JournalFails'. -/
def journalFailsCard : Claim7 := { stood := { row := journalFailsRow, standIns := [], harness := (true, "298d87c01f07204a6d939bb18c76ca628943f5414468ab72eb889f6340469314"), looks := true }, kinds := [], alts := [], laidByText := true, laidKinds := [.handle], laidTests := true, laidLooks := .later }
def JournalFailsCardSaid : Prop := Claim7.holds Tryd.pinned (.plain (OpenSpec.ofChange journalFailsSpec)) journalFailsCard

/-- THE TIED CARD OF 'siltlaw14.JournalNone'. -/
def journalNoneCard : Claim7 := { stood := { row := journalNoneRow, standIns := [], harness := (true, "298d87c01f07204a6d939bb18c76ca628943f5414468ab72eb889f6340469314"), looks := true }, kinds := [], alts := [], laidByText := true, laidKinds := [.handle], laidTests := true, laidLooks := .later }
def JournalNoneCardSaid : Prop := Claim7.holds Tryd.pinned (.plain (OpenSpec.ofChange journalNoneSpec)) journalNoneCard

/-- THE TIED CARD OF 'siltlaw14.JournalSets'. -/
def journalSetsCard : Claim7 := { stood := { row := journalSetsRow, standIns := [], harness := (true, "298d87c01f07204a6d939bb18c76ca628943f5414468ab72eb889f6340469314"), looks := true }, kinds := [], alts := [], laidByText := true, laidKinds := [.handle], laidTests := true, laidLooks := .later }
def JournalSetsCardSaid : Prop := Claim7.holds Tryd.pinned (.plain (OpenSpec.ofChange journalSetsSpec)) journalSetsCard

/-- THE TIED CARD OF 'siltlaw15.ScanNone'. -/
def scanNoneCard : Claim7 := { stood := { row := scanNoneRow, standIns := [], harness := (true, "298d87c01f07204a6d939bb18c76ca628943f5414468ab72eb889f6340469314"), looks := true }, kinds := [], alts := [], laidByText := true, laidKinds := [.handle], laidTests := true, laidLooks := .later }
def ScanNoneCardSaid : Prop := Claim7.holds Tryd.pinned (.plain (OpenSpec.ofChange scanNoneSpec)) scanNoneCard

/-- THE TIED CARD OF 'siltlaw15.ScanStale'. -/
def scanStaleCard : Claim7 := { stood := { row := scanStaleRow, standIns := [], harness := (true, "298d87c01f07204a6d939bb18c76ca628943f5414468ab72eb889f6340469314"), looks := true }, kinds := [], alts := [], laidByText := true, laidKinds := [.handle], laidTests := true, laidLooks := .later }
def ScanStaleCardSaid : Prop := Claim7.holds Tryd.pinned (.plain (OpenSpec.ofChange scanStaleSpec)) scanStaleCard

/-- THE TIED CARD OF 'siltlaw15.ScanFrom'. -/
def scanFromCard : Claim7 := { stood := { row := scanFromRow, standIns := [], harness := (true, "298d87c01f07204a6d939bb18c76ca628943f5414468ab72eb889f6340469314"), looks := true }, kinds := [], alts := [], laidByText := true, laidKinds := [.handle], laidTests := true, laidLooks := .later }
def ScanFromCardSaid : Prop := Claim7.holds Tryd.pinned (.plain (OpenSpec.ofChange scanFromSpec)) scanFromCard

/-- THE TIED CARD OF 'siltlaw15.ScanBack'. -/
def scanBackCard : Claim7 := { stood := { row := scanBackRow, standIns := [], harness := (true, "298d87c01f07204a6d939bb18c76ca628943f5414468ab72eb889f6340469314"), looks := true }, kinds := [], alts := [], laidByText := true, laidKinds := [.handle], laidTests := true, laidLooks := .later }
def ScanBackCardSaid : Prop := Claim7.holds Tryd.pinned (.plain (OpenSpec.ofChange scanBackSpec)) scanBackCard

/-- THE SECOND FORM's CARD OF 'siltlaw19.AnchorNone'. -/
def anchorNoneUptoCard : Claim7 := { stood := { row := anchorNoneUptoRow, standIns := [], harness := (true, "298d87c01f07204a6d939bb18c76ca628943f5414468ab72eb889f6340469314"), looks := true }, kinds := [], alts := [], laidByText := true, laidKinds := [.handle], laidTests := true, laidLooks := .later }
def AnchorNoneUptoCardSaid : Prop := Claim7.holds Tryd.pinned (.plain (OpenSpec.upto anchorNoneSpec)) anchorNoneUptoCard

/-- THE SECOND FORM's CARD OF 'siltlaw14.JournalApart'. -/
def journalApartUptoCard : Claim7 := { stood := { row := journalApartUptoRow, standIns := [], harness := (true, "298d87c01f07204a6d939bb18c76ca628943f5414468ab72eb889f6340469314"), looks := true }, kinds := [], alts := [], laidByText := true, laidKinds := [.handle], laidTests := true, laidLooks := .later }
def JournalApartUptoCardSaid : Prop := Claim7.holds Tryd.pinned (.plain (OpenSpec.upto journalApartSpec)) journalApartUptoCard

/-- THE SECOND FORM's CARD OF 'siltlaw14.JournalRoom'. -/
def journalRoomUptoCard : Claim7 := { stood := { row := journalRoomUptoRow, standIns := [], harness := (true, "298d87c01f07204a6d939bb18c76ca628943f5414468ab72eb889f6340469314"), looks := true }, kinds := [], alts := [], laidByText := true, laidKinds := [.handle], laidTests := true, laidLooks := .later }
def JournalRoomUptoCardSaid : Prop := Claim7.holds Tryd.pinned (.plain (OpenSpec.upto journalRoomSpec)) journalRoomUptoCard

/-- THE SECOND FORM's CARD OF 'siltlaw14.JournalFails'. -/
def journalFailsUptoCard : Claim7 := { stood := { row := journalFailsUptoRow, standIns := [], harness := (true, "298d87c01f07204a6d939bb18c76ca628943f5414468ab72eb889f6340469314"), looks := true }, kinds := [], alts := [], laidByText := true, laidKinds := [.handle], laidTests := true, laidLooks := .later }
def JournalFailsUptoCardSaid : Prop := Claim7.holds Tryd.pinned (.plain (OpenSpec.upto journalFailsSpec)) journalFailsUptoCard

/-- THE SECOND FORM's CARD OF 'siltlaw14.JournalNone'. -/
def journalNoneUptoCard : Claim7 := { stood := { row := journalNoneUptoRow, standIns := [], harness := (true, "298d87c01f07204a6d939bb18c76ca628943f5414468ab72eb889f6340469314"), looks := true }, kinds := [], alts := [], laidByText := true, laidKinds := [.handle], laidTests := true, laidLooks := .later }
def JournalNoneUptoCardSaid : Prop := Claim7.holds Tryd.pinned (.plain (OpenSpec.upto journalNoneSpec)) journalNoneUptoCard

/-- THE SECOND FORM's CARD OF 'siltlaw14.JournalSets'. -/
def journalSetsUptoCard : Claim7 := { stood := { row := journalSetsUptoRow, standIns := [], harness := (true, "298d87c01f07204a6d939bb18c76ca628943f5414468ab72eb889f6340469314"), looks := true }, kinds := [], alts := [], laidByText := true, laidKinds := [.handle], laidTests := true, laidLooks := .later }
def JournalSetsUptoCardSaid : Prop := Claim7.holds Tryd.pinned (.plain (OpenSpec.upto journalSetsSpec)) journalSetsUptoCard

/-- THE SECOND FORM's CARD OF 'siltlaw15.ScanNone'. -/
def scanNoneUptoCard : Claim7 := { stood := { row := scanNoneUptoRow, standIns := [], harness := (true, "298d87c01f07204a6d939bb18c76ca628943f5414468ab72eb889f6340469314"), looks := true }, kinds := [], alts := [], laidByText := true, laidKinds := [.handle], laidTests := true, laidLooks := .later }
def ScanNoneUptoCardSaid : Prop := Claim7.holds Tryd.pinned (.plain (OpenSpec.upto scanNoneSpec)) scanNoneUptoCard

/-- THE SECOND FORM's CARD OF 'siltlaw15.ScanStale'. -/
def scanStaleUptoCard : Claim7 := { stood := { row := scanStaleUptoRow, standIns := [], harness := (true, "298d87c01f07204a6d939bb18c76ca628943f5414468ab72eb889f6340469314"), looks := true }, kinds := [], alts := [], laidByText := true, laidKinds := [.handle], laidTests := true, laidLooks := .later }
def ScanStaleUptoCardSaid : Prop := Claim7.holds Tryd.pinned (.plain (OpenSpec.upto scanStaleSpec)) scanStaleUptoCard

/-- THE SECOND FORM's CARD OF 'siltlaw15.ScanFrom'. -/
def scanFromUptoCard : Claim7 := { stood := { row := scanFromUptoRow, standIns := [], harness := (true, "298d87c01f07204a6d939bb18c76ca628943f5414468ab72eb889f6340469314"), looks := true }, kinds := [], alts := [], laidByText := true, laidKinds := [.handle], laidTests := true, laidLooks := .later }
def ScanFromUptoCardSaid : Prop := Claim7.holds Tryd.pinned (.plain (OpenSpec.upto scanFromSpec)) scanFromUptoCard

/-- THE SECOND FORM's CARD OF 'siltlaw15.ScanBack'. -/
def scanBackUptoCard : Claim7 := { stood := { row := scanBackUptoRow, standIns := [], harness := (true, "298d87c01f07204a6d939bb18c76ca628943f5414468ab72eb889f6340469314"), looks := true }, kinds := [], alts := [], laidByText := true, laidKinds := [.handle], laidTests := true, laidLooks := .later }
def ScanBackUptoCardSaid : Prop := Claim7.holds Tryd.pinned (.plain (OpenSpec.upto scanBackSpec)) scanBackUptoCard
end Rows
end Go.Proofs.YtbhnkjnjeifdhaaDoor
