/-
  DERIVED. GIVEN WITH THE SEED: THE CARDS: each row of YtkofdkinaahbpaaDoorRows.lean that lists a variable, with what it lists TIED to the program's text (the seventh form; the later family's looks); each row that meets fmt, with fmt's text TOLD by the authors' own Lean function (tested against real Go, not proved from fmt's source: count such statements apart). THE CARD IS WHAT COUNTS. Prove the row's statement (the work); the ties are given (YtkofdkinaahbpaaDoorTie.lean); close each card by the builder's one call (the guide's Derived/Test/ToyasCard.lean, 'card_holds'). Laid BY PROGRAM, IN A SANDBOX (cutbox-door.mjs). By AI agents, Wed Nov 11 2026. No macro, syntax, notation, axiom, sorry.
-/
import Derived.Test.YtkofdkinaahbpaaDoorRows
import GoSem.ClaimSeven
namespace Go.Proofs.YtkofdkinaahbpaaDoor
namespace Rows

/-- THE TIED CARD OF 'laws.FnExactFits'. -/
def fnExactFitsCard : Claim7 := { stood := { row := fnExactFitsRow, standIns := [], harness := (true, "ca20538b8ae1844212bbd2dcac9b02739c173303d55c1ed7aee058458b355a1f"), looks := true }, kinds := [], alts := [], laidByText := true, laidKinds := [.data, .data, .data, .data, .sentinel, .sentinel, .pinned], laidTests := true, laidLooks := .later }
def FnExactFitsCardSaid : Prop := Claim7.holds Tryd.pinned (.plain (OpenSpec.ofChange fnExactFitsSpec)) fnExactFitsCard

/-- THE TIED CARD OF 'laws.FnExactNeedOk'. -/
def fnExactNeedOkCard : Claim7 := { stood := { row := fnExactNeedOkRow, standIns := [], harness := (true, "ca20538b8ae1844212bbd2dcac9b02739c173303d55c1ed7aee058458b355a1f"), looks := true }, kinds := [], alts := [], laidByText := true, laidKinds := [.data, .data, .data, .data, .sentinel, .sentinel, .pinned], laidTests := true, laidLooks := .later }
def FnExactNeedOkCardSaid : Prop := Claim7.holds Tryd.pinned (.plain (OpenSpec.ofChange fnExactNeedOkSpec)) fnExactNeedOkCard

/-- THE TIED CARD OF 'laws.FnExactEntryName'. -/
def fnExactEntryNameCard : Claim7 := { stood := { row := fnExactEntryNameRow, standIns := [], harness := (true, "ca20538b8ae1844212bbd2dcac9b02739c173303d55c1ed7aee058458b355a1f"), looks := true }, kinds := [], alts := [], laidByText := true, laidKinds := [.data, .data, .data, .data, .sentinel, .sentinel, .pinned], laidTests := true, laidLooks := .later }
def FnExactEntryNameCardSaid : Prop := Claim7.holds Tryd.pinned (.plain (OpenSpec.ofChange fnExactEntryNameSpec)) fnExactEntryNameCard

/-- THE TIED CARD OF 'laws.FnVersions'. -/
def fnVersionsCard : Claim7 := { stood := { row := fnVersionsRow, standIns := [], harness := (true, "ca20538b8ae1844212bbd2dcac9b02739c173303d55c1ed7aee058458b355a1f"), looks := true }, kinds := [], alts := [], laidByText := true, laidKinds := [.data, .data, .data, .data, .sentinel, .sentinel, .pinned], laidTests := true, laidLooks := .later }
def FnVersionsCardSaid : Prop := Claim7.holds Tryd.pinned (.plain (OpenSpec.ofChange fnVersionsSpec)) fnVersionsCard

/-- THE TIED CARD OF 'laws.FnModules'. -/
def fnModulesCard : Claim7 := { stood := { row := fnModulesRow, standIns := [], harness := (true, "ca20538b8ae1844212bbd2dcac9b02739c173303d55c1ed7aee058458b355a1f"), looks := true }, kinds := [], alts := [], laidByText := true, laidKinds := [.data, .data, .data, .data, .sentinel, .sentinel, .pinned], laidTests := true, laidLooks := .later }
def FnModulesCardSaid : Prop := Claim7.holds Tryd.pinned (.plain (OpenSpec.ofChange fnModulesSpec)) fnModulesCard

/-- THE TIED CARD OF 'laws.FnFits'. -/
def fnFitsCard : Claim7 := { stood := { row := fnFitsRow, standIns := [], harness := (true, "ca20538b8ae1844212bbd2dcac9b02739c173303d55c1ed7aee058458b355a1f"), looks := true }, kinds := [], alts := [], laidByText := true, laidKinds := [.data, .data, .data, .data, .sentinel, .sentinel, .pinned], laidTests := true, laidLooks := .later }
def FnFitsCardSaid : Prop := Claim7.holds Tryd.pinned (.plain (OpenSpec.ofChange fnFitsSpec)) fnFitsCard

/-- THE TIED CARD OF 'laws.FnExactNeedsOk'. -/
def fnExactNeedsOkCard : Claim7 := { stood := { row := fnExactNeedsOkRow, standIns := [], harness := (true, "ca20538b8ae1844212bbd2dcac9b02739c173303d55c1ed7aee058458b355a1f"), looks := true }, kinds := [], alts := [], laidByText := true, laidKinds := [.data, .data, .data, .data, .sentinel, .sentinel, .pinned], laidTests := true, laidLooks := .later }
def FnExactNeedsOkCardSaid : Prop := Claim7.holds Tryd.pinned (.plain (OpenSpec.ofChange fnExactNeedsOkSpec)) fnExactNeedsOkCard

/-- THE TIED CARD OF 'laws.FnExactParseName'. -/
def fnExactParseNameCard : Claim7 := { stood := { row := fnExactParseNameRow, standIns := [], harness := (true, "ca20538b8ae1844212bbd2dcac9b02739c173303d55c1ed7aee058458b355a1f"), looks := true }, kinds := [], alts := [], laidByText := true, laidKinds := [.data, .data, .data, .data, .sentinel, .sentinel, .pinned], laidTests := true, laidLooks := .later }
def FnExactParseNameCardSaid : Prop := Claim7.holds Tryd.pinned (.plain (OpenSpec.ofChange fnExactParseNameSpec)) fnExactParseNameCard

/-- THE TIED CARD OF 'laws.FnExactEntryOk'. -/
def fnExactEntryOkCard : Claim7 := { stood := { row := fnExactEntryOkRow, standIns := [], harness := (true, "ca20538b8ae1844212bbd2dcac9b02739c173303d55c1ed7aee058458b355a1f"), looks := true }, kinds := [], alts := [], laidByText := true, laidKinds := [.data, .data, .data, .data, .sentinel, .sentinel, .pinned], laidTests := true, laidLooks := .later }
def FnExactEntryOkCardSaid : Prop := Claim7.holds Tryd.pinned (.plain (OpenSpec.ofChange fnExactEntryOkSpec)) fnExactEntryOkCard

/-- THE SECOND FORM's CARD OF 'laws.FnExactFits'. -/
def fnExactFitsUptoCard : Claim7 := { stood := { row := fnExactFitsUptoRow, standIns := [], harness := (true, "ca20538b8ae1844212bbd2dcac9b02739c173303d55c1ed7aee058458b355a1f"), looks := true }, kinds := [], alts := [], laidByText := true, laidKinds := [.data, .data, .data, .data, .sentinel, .sentinel, .pinned], laidTests := true, laidLooks := .later }
def FnExactFitsUptoCardSaid : Prop := Claim7.holds Tryd.pinned (.plain (OpenSpec.upto fnExactFitsSpec)) fnExactFitsUptoCard

/-- THE SECOND FORM's CARD OF 'laws.FnExactNeedOk'. -/
def fnExactNeedOkUptoCard : Claim7 := { stood := { row := fnExactNeedOkUptoRow, standIns := [], harness := (true, "ca20538b8ae1844212bbd2dcac9b02739c173303d55c1ed7aee058458b355a1f"), looks := true }, kinds := [], alts := [], laidByText := true, laidKinds := [.data, .data, .data, .data, .sentinel, .sentinel, .pinned], laidTests := true, laidLooks := .later }
def FnExactNeedOkUptoCardSaid : Prop := Claim7.holds Tryd.pinned (.plain (OpenSpec.upto fnExactNeedOkSpec)) fnExactNeedOkUptoCard

/-- THE SECOND FORM's CARD OF 'laws.FnExactEntryName'. -/
def fnExactEntryNameUptoCard : Claim7 := { stood := { row := fnExactEntryNameUptoRow, standIns := [], harness := (true, "ca20538b8ae1844212bbd2dcac9b02739c173303d55c1ed7aee058458b355a1f"), looks := true }, kinds := [], alts := [], laidByText := true, laidKinds := [.data, .data, .data, .data, .sentinel, .sentinel, .pinned], laidTests := true, laidLooks := .later }
def FnExactEntryNameUptoCardSaid : Prop := Claim7.holds Tryd.pinned (.plain (OpenSpec.upto fnExactEntryNameSpec)) fnExactEntryNameUptoCard

/-- THE SECOND FORM's CARD OF 'laws.FnVersions'. -/
def fnVersionsUptoCard : Claim7 := { stood := { row := fnVersionsUptoRow, standIns := [], harness := (true, "ca20538b8ae1844212bbd2dcac9b02739c173303d55c1ed7aee058458b355a1f"), looks := true }, kinds := [], alts := [], laidByText := true, laidKinds := [.data, .data, .data, .data, .sentinel, .sentinel, .pinned], laidTests := true, laidLooks := .later }
def FnVersionsUptoCardSaid : Prop := Claim7.holds Tryd.pinned (.plain (OpenSpec.upto fnVersionsSpec)) fnVersionsUptoCard

/-- THE SECOND FORM's CARD OF 'laws.FnModules'. -/
def fnModulesUptoCard : Claim7 := { stood := { row := fnModulesUptoRow, standIns := [], harness := (true, "ca20538b8ae1844212bbd2dcac9b02739c173303d55c1ed7aee058458b355a1f"), looks := true }, kinds := [], alts := [], laidByText := true, laidKinds := [.data, .data, .data, .data, .sentinel, .sentinel, .pinned], laidTests := true, laidLooks := .later }
def FnModulesUptoCardSaid : Prop := Claim7.holds Tryd.pinned (.plain (OpenSpec.upto fnModulesSpec)) fnModulesUptoCard

/-- THE SECOND FORM's CARD OF 'laws.FnFits'. -/
def fnFitsUptoCard : Claim7 := { stood := { row := fnFitsUptoRow, standIns := [], harness := (true, "ca20538b8ae1844212bbd2dcac9b02739c173303d55c1ed7aee058458b355a1f"), looks := true }, kinds := [], alts := [], laidByText := true, laidKinds := [.data, .data, .data, .data, .sentinel, .sentinel, .pinned], laidTests := true, laidLooks := .later }
def FnFitsUptoCardSaid : Prop := Claim7.holds Tryd.pinned (.plain (OpenSpec.upto fnFitsSpec)) fnFitsUptoCard

/-- THE SECOND FORM's CARD OF 'laws.FnExactNeedsOk'. -/
def fnExactNeedsOkUptoCard : Claim7 := { stood := { row := fnExactNeedsOkUptoRow, standIns := [], harness := (true, "ca20538b8ae1844212bbd2dcac9b02739c173303d55c1ed7aee058458b355a1f"), looks := true }, kinds := [], alts := [], laidByText := true, laidKinds := [.data, .data, .data, .data, .sentinel, .sentinel, .pinned], laidTests := true, laidLooks := .later }
def FnExactNeedsOkUptoCardSaid : Prop := Claim7.holds Tryd.pinned (.plain (OpenSpec.upto fnExactNeedsOkSpec)) fnExactNeedsOkUptoCard

/-- THE SECOND FORM's CARD OF 'laws.FnExactParseName'. -/
def fnExactParseNameUptoCard : Claim7 := { stood := { row := fnExactParseNameUptoRow, standIns := [], harness := (true, "ca20538b8ae1844212bbd2dcac9b02739c173303d55c1ed7aee058458b355a1f"), looks := true }, kinds := [], alts := [], laidByText := true, laidKinds := [.data, .data, .data, .data, .sentinel, .sentinel, .pinned], laidTests := true, laidLooks := .later }
def FnExactParseNameUptoCardSaid : Prop := Claim7.holds Tryd.pinned (.plain (OpenSpec.upto fnExactParseNameSpec)) fnExactParseNameUptoCard

/-- THE SECOND FORM's CARD OF 'laws.FnExactEntryOk'. -/
def fnExactEntryOkUptoCard : Claim7 := { stood := { row := fnExactEntryOkUptoRow, standIns := [], harness := (true, "ca20538b8ae1844212bbd2dcac9b02739c173303d55c1ed7aee058458b355a1f"), looks := true }, kinds := [], alts := [], laidByText := true, laidKinds := [.data, .data, .data, .data, .sentinel, .sentinel, .pinned], laidTests := true, laidLooks := .later }
def FnExactEntryOkUptoCardSaid : Prop := Claim7.holds Tryd.pinned (.plain (OpenSpec.upto fnExactEntryOkSpec)) fnExactEntryOkUptoCard
end Rows
end Go.Proofs.YtkofdkinaahbpaaDoor
