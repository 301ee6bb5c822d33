/-
  DERIVED. GIVEN WITH THE SEED: THE CARDS: each row of YtagbldaiedmikaaDoorRows.lean that lists a variable, with what it lists TIED to the program's text (the seventh form; the later family's looks); each row that meets fmt, with fmt's text TOLD by the authors' own Lean function (tested against real Go, not proved from fmt's source: count such statements apart). THE CARD IS WHAT COUNTS. Prove the row's statement (the work); the ties are given (YtagbldaiedmikaaDoorTie.lean); close each card by the builder's one call (the guide's Derived/Test/ToyasCard.lean, 'card_holds'). Laid BY PROGRAM, IN A SANDBOX (cutbox-door.mjs). By AI agents, Wed Nov 11 2026. No macro, syntax, notation, axiom, sorry.
-/
import Derived.Test.YtagbldaiedmikaaDoorRows
import GoSem.ClaimSeven
namespace Go.Proofs.YtagbldaiedmikaaDoor
namespace Rows

/-- THE TIED CARD OF 'laws.FnExactPathOk'. -/
def fnExactPathOkCard : Claim7 := { stood := { row := fnExactPathOkRow, standIns := [], harness := (true, "8854c4987ba7e5863879e1c1f3e5572041dc37068018b6f4d5d9faa1d5368be2"), looks := true }, kinds := [], alts := [], laidByText := true, laidKinds := [.data, .pinned], laidTests := true, laidLooks := .later }
def FnExactPathOkCardSaid : Prop := Claim7.holds Tryd.pinned (.plain (OpenSpec.ofChange fnExactPathOkSpec)) fnExactPathOkCard

/-- THE TIED CARD OF 'laws.FnExactVersionOk'. -/
def fnExactVersionOkCard : Claim7 := { stood := { row := fnExactVersionOkRow, standIns := [], harness := (true, "8854c4987ba7e5863879e1c1f3e5572041dc37068018b6f4d5d9faa1d5368be2"), looks := true }, kinds := [], alts := [], laidByText := true, laidKinds := [.data, .pinned], laidTests := true, laidLooks := .later }
def FnExactVersionOkCardSaid : Prop := Claim7.holds Tryd.pinned (.plain (OpenSpec.ofChange fnExactVersionOkSpec)) fnExactVersionOkCard

/-- THE TIED CARD OF 'laws.FnExactBump'. -/
def fnExactBumpCard : Claim7 := { stood := { row := fnExactBumpRow, standIns := [], harness := (true, "8854c4987ba7e5863879e1c1f3e5572041dc37068018b6f4d5d9faa1d5368be2"), looks := true }, kinds := [], alts := [], laidByText := true, laidKinds := [.data, .pinned], laidTests := true, laidLooks := .later }
def FnExactBumpCardSaid : Prop := Claim7.holds Tryd.pinned (.plain (OpenSpec.ofChange fnExactBumpSpec)) fnExactBumpCard

/-- THE TIED CARD OF 'laws.FnExactLessVersion'. -/
def fnExactLessVersionCard : Claim7 := { stood := { row := fnExactLessVersionRow, standIns := [], harness := (true, "8854c4987ba7e5863879e1c1f3e5572041dc37068018b6f4d5d9faa1d5368be2"), looks := true }, kinds := [], alts := [], laidByText := true, laidKinds := [.data, .pinned], laidTests := true, laidLooks := .later }
def FnExactLessVersionCardSaid : Prop := Claim7.holds Tryd.pinned (.plain (OpenSpec.ofChange fnExactLessVersionSpec)) fnExactLessVersionCard

/-- THE TIED CARD OF 'laws.FnPre'. -/
def fnPreCard : Claim7 := { stood := { row := fnPreRow, standIns := [], harness := (true, "8854c4987ba7e5863879e1c1f3e5572041dc37068018b6f4d5d9faa1d5368be2"), looks := true }, kinds := [], alts := [], laidByText := true, laidKinds := [.data, .pinned], laidTests := true, laidLooks := .later }
def FnPreCardSaid : Prop := Claim7.holds Tryd.pinned (.plain (OpenSpec.ofChange fnPreSpec)) fnPreCard

/-- THE TIED CARD OF 'laws.FnOrder'. -/
def fnOrderCard : Claim7 := { stood := { row := fnOrderRow, standIns := [], harness := (true, "8854c4987ba7e5863879e1c1f3e5572041dc37068018b6f4d5d9faa1d5368be2"), looks := true }, kinds := [], alts := [], laidByText := true, laidKinds := [.data, .pinned], laidTests := true, laidLooks := .later }
def FnOrderCardSaid : Prop := Claim7.holds Tryd.pinned (.plain (OpenSpec.ofChange fnOrderSpec)) fnOrderCard

/-- THE TIED CARD OF 'laws.FnExactLatest'. -/
def fnExactLatestCard : Claim7 := { stood := { row := fnExactLatestRow, standIns := [], harness := (true, "8854c4987ba7e5863879e1c1f3e5572041dc37068018b6f4d5d9faa1d5368be2"), looks := true }, kinds := [], alts := [], laidByText := true, laidKinds := [.data, .pinned], laidTests := true, laidLooks := .later }
def FnExactLatestCardSaid : Prop := Claim7.holds Tryd.pinned (.plain (OpenSpec.ofChange fnExactLatestSpec)) fnExactLatestCard

/-- THE TIED CARD OF 'laws.FnLatest'. -/
def fnLatestCard : Claim7 := { stood := { row := fnLatestRow, standIns := [], harness := (true, "8854c4987ba7e5863879e1c1f3e5572041dc37068018b6f4d5d9faa1d5368be2"), looks := true }, kinds := [], alts := [], laidByText := true, laidKinds := [.data, .pinned], laidTests := true, laidLooks := .later }
def FnLatestCardSaid : Prop := Claim7.holds Tryd.pinned (.plain (OpenSpec.ofChange fnLatestSpec)) fnLatestCard

/-- THE TIED CARD OF 'laws.FnExactVersionText'. -/
def fnExactVersionTextCard : Claim7 := { stood := { row := fnExactVersionTextRow, standIns := [], harness := (true, "8854c4987ba7e5863879e1c1f3e5572041dc37068018b6f4d5d9faa1d5368be2"), looks := true }, kinds := [], alts := [], laidByText := true, laidKinds := [.data, .data, .data, .data, .pinned], laidTests := true, laidLooks := .later }
def FnExactVersionTextCardSaid : Prop := Claim7.holds Tryd.pinned (.plain (OpenSpec.ofChange fnExactVersionTextSpec)) fnExactVersionTextCard

/-- THE TIED CARD OF 'laws.FnExactMajorOf'. -/
def fnExactMajorOfCard : Claim7 := { stood := { row := fnExactMajorOfRow, standIns := [], harness := (true, "8854c4987ba7e5863879e1c1f3e5572041dc37068018b6f4d5d9faa1d5368be2"), looks := true }, kinds := [], alts := [], laidByText := true, laidKinds := [.data, .data, .data, .data, .sentinel, .sentinel, .pinned], laidTests := true, laidLooks := .later }
def FnExactMajorOfCardSaid : Prop := Claim7.holds Tryd.pinned (.plain (OpenSpec.ofChange fnExactMajorOfSpec)) fnExactMajorOfCard

/-- THE TIED CARD OF 'laws.FnExactBase'. -/
def fnExactBaseCard : Claim7 := { stood := { row := fnExactBaseRow, standIns := [], harness := (true, "8854c4987ba7e5863879e1c1f3e5572041dc37068018b6f4d5d9faa1d5368be2"), looks := true }, kinds := [], alts := [], laidByText := true, laidKinds := [.data, .data, .data, .data, .sentinel, .sentinel, .pinned], laidTests := true, laidLooks := .later }
def FnExactBaseCardSaid : Prop := Claim7.holds Tryd.pinned (.plain (OpenSpec.ofChange fnExactBaseSpec)) fnExactBaseCard

/-- THE TIED CARD OF 'laws.FnExactParseVersion'. -/
def fnExactParseVersionCard : Claim7 := { stood := { row := fnExactParseVersionRow, standIns := [], harness := (true, "8854c4987ba7e5863879e1c1f3e5572041dc37068018b6f4d5d9faa1d5368be2"), looks := true }, kinds := [], alts := [], laidByText := true, laidKinds := [.data, .data, .data, .data, .sentinel, .sentinel, .pinned], laidTests := true, laidLooks := .later }
def FnExactParseVersionCardSaid : Prop := Claim7.holds Tryd.pinned (.plain (OpenSpec.ofChange fnExactParseVersionSpec)) fnExactParseVersionCard

/-- THE SECOND FORM's CARD OF 'laws.FnExactPathOk'. -/
def fnExactPathOkUptoCard : Claim7 := { stood := { row := fnExactPathOkUptoRow, standIns := [], harness := (true, "8854c4987ba7e5863879e1c1f3e5572041dc37068018b6f4d5d9faa1d5368be2"), looks := true }, kinds := [], alts := [], laidByText := true, laidKinds := [.data, .pinned], laidTests := true, laidLooks := .later }
def FnExactPathOkUptoCardSaid : Prop := Claim7.holds Tryd.pinned (.plain (OpenSpec.upto fnExactPathOkSpec)) fnExactPathOkUptoCard

/-- THE SECOND FORM's CARD OF 'laws.FnExactVersionOk'. -/
def fnExactVersionOkUptoCard : Claim7 := { stood := { row := fnExactVersionOkUptoRow, standIns := [], harness := (true, "8854c4987ba7e5863879e1c1f3e5572041dc37068018b6f4d5d9faa1d5368be2"), looks := true }, kinds := [], alts := [], laidByText := true, laidKinds := [.data, .pinned], laidTests := true, laidLooks := .later }
def FnExactVersionOkUptoCardSaid : Prop := Claim7.holds Tryd.pinned (.plain (OpenSpec.upto fnExactVersionOkSpec)) fnExactVersionOkUptoCard

/-- THE SECOND FORM's CARD OF 'laws.FnExactBump'. -/
def fnExactBumpUptoCard : Claim7 := { stood := { row := fnExactBumpUptoRow, standIns := [], harness := (true, "8854c4987ba7e5863879e1c1f3e5572041dc37068018b6f4d5d9faa1d5368be2"), looks := true }, kinds := [], alts := [], laidByText := true, laidKinds := [.data, .pinned], laidTests := true, laidLooks := .later }
def FnExactBumpUptoCardSaid : Prop := Claim7.holds Tryd.pinned (.plain (OpenSpec.upto fnExactBumpSpec)) fnExactBumpUptoCard

/-- THE SECOND FORM's CARD OF 'laws.FnExactLessVersion'. -/
def fnExactLessVersionUptoCard : Claim7 := { stood := { row := fnExactLessVersionUptoRow, standIns := [], harness := (true, "8854c4987ba7e5863879e1c1f3e5572041dc37068018b6f4d5d9faa1d5368be2"), looks := true }, kinds := [], alts := [], laidByText := true, laidKinds := [.data, .pinned], laidTests := true, laidLooks := .later }
def FnExactLessVersionUptoCardSaid : Prop := Claim7.holds Tryd.pinned (.plain (OpenSpec.upto fnExactLessVersionSpec)) fnExactLessVersionUptoCard

/-- THE SECOND FORM's CARD OF 'laws.FnPre'. -/
def fnPreUptoCard : Claim7 := { stood := { row := fnPreUptoRow, standIns := [], harness := (true, "8854c4987ba7e5863879e1c1f3e5572041dc37068018b6f4d5d9faa1d5368be2"), looks := true }, kinds := [], alts := [], laidByText := true, laidKinds := [.data, .pinned], laidTests := true, laidLooks := .later }
def FnPreUptoCardSaid : Prop := Claim7.holds Tryd.pinned (.plain (OpenSpec.upto fnPreSpec)) fnPreUptoCard

/-- THE SECOND FORM's CARD OF 'laws.FnOrder'. -/
def fnOrderUptoCard : Claim7 := { stood := { row := fnOrderUptoRow, standIns := [], harness := (true, "8854c4987ba7e5863879e1c1f3e5572041dc37068018b6f4d5d9faa1d5368be2"), looks := true }, kinds := [], alts := [], laidByText := true, laidKinds := [.data, .pinned], laidTests := true, laidLooks := .later }
def FnOrderUptoCardSaid : Prop := Claim7.holds Tryd.pinned (.plain (OpenSpec.upto fnOrderSpec)) fnOrderUptoCard

/-- THE SECOND FORM's CARD OF 'laws.FnExactLatest'. -/
def fnExactLatestUptoCard : Claim7 := { stood := { row := fnExactLatestUptoRow, standIns := [], harness := (true, "8854c4987ba7e5863879e1c1f3e5572041dc37068018b6f4d5d9faa1d5368be2"), looks := true }, kinds := [], alts := [], laidByText := true, laidKinds := [.data, .pinned], laidTests := true, laidLooks := .later }
def FnExactLatestUptoCardSaid : Prop := Claim7.holds Tryd.pinned (.plain (OpenSpec.upto fnExactLatestSpec)) fnExactLatestUptoCard

/-- THE SECOND FORM's CARD OF 'laws.FnLatest'. -/
def fnLatestUptoCard : Claim7 := { stood := { row := fnLatestUptoRow, standIns := [], harness := (true, "8854c4987ba7e5863879e1c1f3e5572041dc37068018b6f4d5d9faa1d5368be2"), looks := true }, kinds := [], alts := [], laidByText := true, laidKinds := [.data, .pinned], laidTests := true, laidLooks := .later }
def FnLatestUptoCardSaid : Prop := Claim7.holds Tryd.pinned (.plain (OpenSpec.upto fnLatestSpec)) fnLatestUptoCard

/-- THE SECOND FORM's CARD OF 'laws.FnExactVersionText'. -/
def fnExactVersionTextUptoCard : Claim7 := { stood := { row := fnExactVersionTextUptoRow, standIns := [], harness := (true, "8854c4987ba7e5863879e1c1f3e5572041dc37068018b6f4d5d9faa1d5368be2"), looks := true }, kinds := [], alts := [], laidByText := true, laidKinds := [.data, .data, .data, .data, .pinned], laidTests := true, laidLooks := .later }
def FnExactVersionTextUptoCardSaid : Prop := Claim7.holds Tryd.pinned (.plain (OpenSpec.upto fnExactVersionTextSpec)) fnExactVersionTextUptoCard

/-- THE SECOND FORM's CARD OF 'laws.FnExactMajorOf'. -/
def fnExactMajorOfUptoCard : Claim7 := { stood := { row := fnExactMajorOfUptoRow, standIns := [], harness := (true, "8854c4987ba7e5863879e1c1f3e5572041dc37068018b6f4d5d9faa1d5368be2"), looks := true }, kinds := [], alts := [], laidByText := true, laidKinds := [.data, .data, .data, .data, .sentinel, .sentinel, .pinned], laidTests := true, laidLooks := .later }
def FnExactMajorOfUptoCardSaid : Prop := Claim7.holds Tryd.pinned (.plain (OpenSpec.upto fnExactMajorOfSpec)) fnExactMajorOfUptoCard

/-- THE SECOND FORM's CARD OF 'laws.FnExactBase'. -/
def fnExactBaseUptoCard : Claim7 := { stood := { row := fnExactBaseUptoRow, standIns := [], harness := (true, "8854c4987ba7e5863879e1c1f3e5572041dc37068018b6f4d5d9faa1d5368be2"), looks := true }, kinds := [], alts := [], laidByText := true, laidKinds := [.data, .data, .data, .data, .sentinel, .sentinel, .pinned], laidTests := true, laidLooks := .later }
def FnExactBaseUptoCardSaid : Prop := Claim7.holds Tryd.pinned (.plain (OpenSpec.upto fnExactBaseSpec)) fnExactBaseUptoCard

/-- THE SECOND FORM's CARD OF 'laws.FnExactParseVersion'. -/
def fnExactParseVersionUptoCard : Claim7 := { stood := { row := fnExactParseVersionUptoRow, standIns := [], harness := (true, "8854c4987ba7e5863879e1c1f3e5572041dc37068018b6f4d5d9faa1d5368be2"), looks := true }, kinds := [], alts := [], laidByText := true, laidKinds := [.data, .data, .data, .data, .sentinel, .sentinel, .pinned], laidTests := true, laidLooks := .later }
def FnExactParseVersionUptoCardSaid : Prop := Claim7.holds Tryd.pinned (.plain (OpenSpec.upto fnExactParseVersionSpec)) fnExactParseVersionUptoCard
end Rows
end Go.Proofs.YtagbldaiedmikaaDoor
