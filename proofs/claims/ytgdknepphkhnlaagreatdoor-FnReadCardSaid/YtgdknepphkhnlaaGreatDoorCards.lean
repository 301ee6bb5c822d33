/-
  DERIVED. GIVEN WITH THE SEED: THE CARDS: each row of YtgdknepphkhnlaaGreatDoorRows.lean that lists a variable, with what it lists TIED to the program's text (the seventh form; the later family's looks); each row that meets fmt, with fmt's text TOLD by the authors' own Lean function (tested against real Go, not proved from fmt's source: count such statements apart). THE CARD IS WHAT COUNTS. Prove the row's statement (the work); the ties are given (YtgdknepphkhnlaaGreatDoorTie.lean); close each card by the builder's one call (the guide's Derived/Test/ToyasCard.lean, 'card_holds'). Laid BY PROGRAM, IN A SANDBOX (cutbox-door.mjs). By AI agents, Wed Nov 11 2026. No macro, syntax, notation, axiom, sorry.
-/
import Derived.Test.YtgdknepphkhnlaaGreatDoorRows
import GoSem.ClaimSeven
namespace Go.Proofs.YtgdknepphkhnlaaGreatDoor
namespace Rows

/-- THE TIED CARD OF 'laws.FnEntries'. -/
def fnEntriesCard : Claim7 := { stood := { row := fnEntriesRow, standIns := [], harness := (true, "6d29ea37bb3f2b96e849b59654e73d13cb16360989e6b50d65bf3eda784cb5ab"), looks := true }, kinds := [], alts := [], laidByText := true, laidKinds := [.data, .data, .data, .data, .sentinel, .sentinel, .pinned], laidTests := true, laidLooks := .later }
def FnEntriesCardSaid : Prop := Claim7.holds Tryz.pinned (.plain (OpenSpec.ofChange fnEntriesSpec)) fnEntriesCard

/-- THE TIED CARD OF 'laws.FnExactGetEntry'. -/
def fnExactGetEntryCard : Claim7 := { stood := { row := fnExactGetEntryRow, standIns := [], harness := (true, "6d29ea37bb3f2b96e849b59654e73d13cb16360989e6b50d65bf3eda784cb5ab"), looks := true }, kinds := [], alts := [], laidByText := true, laidKinds := [.data, .data, .data, .data, .sentinel, .sentinel, .pinned], laidTests := true, laidLooks := .later }
def FnExactGetEntryCardSaid : Prop := Claim7.holds Tryz.pinned (.plain (OpenSpec.ofChange fnExactGetEntrySpec)) fnExactGetEntryCard

/-- THE TIED CARD OF 'laws.FnRead'. -/
def fnReadCard : Claim7 := { stood := { row := fnReadRow, standIns := [], harness := (true, "6d29ea37bb3f2b96e849b59654e73d13cb16360989e6b50d65bf3eda784cb5ab"), looks := true }, kinds := [], alts := [], laidByText := true, laidKinds := [.data, .data, .data, .data, .sentinel, .sentinel, .pinned], laidTests := true, laidLooks := .later }
def FnReadCardSaid : Prop := Claim7.holds Tryz.pinned (.plain (OpenSpec.ofChange fnReadSpec)) fnReadCard

/-- THE TIED CARD OF 'laws.FnExactPutEntry'. -/
def fnExactPutEntryCard : Claim7 := { stood := { row := fnExactPutEntryRow, standIns := [], harness := (true, "6d29ea37bb3f2b96e849b59654e73d13cb16360989e6b50d65bf3eda784cb5ab"), looks := true }, kinds := [], alts := [], laidByText := true, laidKinds := [.data, .data, .data, .data, .sentinel, .sentinel, .pinned], laidTests := true, laidLooks := .later }
def FnExactPutEntryCardSaid : Prop := Claim7.holds Tryz.pinned (.plain (OpenSpec.ofChange fnExactPutEntrySpec)) fnExactPutEntryCard

/-- THE SECOND FORM's CARD OF 'laws.FnEntries'. -/
def fnEntriesUptoCard : Claim7 := { stood := { row := fnEntriesUptoRow, standIns := [], harness := (true, "6d29ea37bb3f2b96e849b59654e73d13cb16360989e6b50d65bf3eda784cb5ab"), looks := true }, kinds := [], alts := [], laidByText := true, laidKinds := [.data, .data, .data, .data, .sentinel, .sentinel, .pinned], laidTests := true, laidLooks := .later }
def FnEntriesUptoCardSaid : Prop := Claim7.holds Tryz.pinned (.plain (OpenSpec.upto fnEntriesSpec)) fnEntriesUptoCard

/-- THE SECOND FORM's CARD OF 'laws.FnExactGetEntry'. -/
def fnExactGetEntryUptoCard : Claim7 := { stood := { row := fnExactGetEntryUptoRow, standIns := [], harness := (true, "6d29ea37bb3f2b96e849b59654e73d13cb16360989e6b50d65bf3eda784cb5ab"), looks := true }, kinds := [], alts := [], laidByText := true, laidKinds := [.data, .data, .data, .data, .sentinel, .sentinel, .pinned], laidTests := true, laidLooks := .later }
def FnExactGetEntryUptoCardSaid : Prop := Claim7.holds Tryz.pinned (.plain (OpenSpec.upto fnExactGetEntrySpec)) fnExactGetEntryUptoCard

/-- THE SECOND FORM's CARD OF 'laws.FnRead'. -/
def fnReadUptoCard : Claim7 := { stood := { row := fnReadUptoRow, standIns := [], harness := (true, "6d29ea37bb3f2b96e849b59654e73d13cb16360989e6b50d65bf3eda784cb5ab"), looks := true }, kinds := [], alts := [], laidByText := true, laidKinds := [.data, .data, .data, .data, .sentinel, .sentinel, .pinned], laidTests := true, laidLooks := .later }
def FnReadUptoCardSaid : Prop := Claim7.holds Tryz.pinned (.plain (OpenSpec.upto fnReadSpec)) fnReadUptoCard

/-- THE SECOND FORM's CARD OF 'laws.FnExactPutEntry'. -/
def fnExactPutEntryUptoCard : Claim7 := { stood := { row := fnExactPutEntryUptoRow, standIns := [], harness := (true, "6d29ea37bb3f2b96e849b59654e73d13cb16360989e6b50d65bf3eda784cb5ab"), looks := true }, kinds := [], alts := [], laidByText := true, laidKinds := [.data, .data, .data, .data, .sentinel, .sentinel, .pinned], laidTests := true, laidLooks := .later }
def FnExactPutEntryUptoCardSaid : Prop := Claim7.holds Tryz.pinned (.plain (OpenSpec.upto fnExactPutEntrySpec)) fnExactPutEntryUptoCard
end Rows
end Go.Proofs.YtgdknepphkhnlaaGreatDoor
