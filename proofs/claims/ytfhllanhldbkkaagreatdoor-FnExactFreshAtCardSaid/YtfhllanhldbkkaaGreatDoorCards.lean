/-
  DERIVED. GIVEN WITH THE SEED: THE CARDS: each row of YtfhllanhldbkkaaGreatDoorRows.lean that lists a variable, with what it lists TIED to the program's text (the seventh form; the later family's looks); each row that meets fmt, with fmt's text TOLD by the authors' own Lean function (tested against real Go, not proved from fmt's source: count such statements apart). THE CARD IS WHAT COUNTS. Prove the row's statement (the work); the ties are given (YtfhllanhldbkkaaGreatDoorTie.lean); close each card by the builder's one call (the guide's Derived/Test/ToyasCard.lean, 'card_holds'). Laid BY PROGRAM, IN A SANDBOX (cutbox-door.mjs). By AI agents, Wed Nov 11 2026. No macro, syntax, notation, axiom, sorry.
-/
import Derived.Test.YtfhllanhldbkkaaGreatDoorRows
import GoSem.ClaimSeven
namespace Go.Proofs.YtfhllanhldbkkaaGreatDoor
namespace Rows

/-- THE TIED CARD OF 'laws.FnExactEntryOk'. -/
def fnExactEntryOkCard : Claim7 := { stood := { row := fnExactEntryOkRow, standIns := [], harness := (true, "bddcde135e9c0ca02eed9bb89ab5a5ef7e25ae5db270f3084ef9de104a1cf258"), looks := true }, kinds := [], alts := [], laidByText := true, laidKinds := [.data, .data, .data, .data, .sentinel, .sentinel, .pinned], laidTests := true, laidLooks := .later }
def FnExactEntryOkCardSaid : Prop := Claim7.holds Tryz.pinned (.plain (OpenSpec.ofChange fnExactEntryOkSpec)) fnExactEntryOkCard

/-- THE TIED CARD OF 'laws.FnExactDateOf'. -/
def fnExactDateOfCard : Claim7 := { stood := { row := fnExactDateOfRow, standIns := [], harness := (true, "bddcde135e9c0ca02eed9bb89ab5a5ef7e25ae5db270f3084ef9de104a1cf258"), looks := true }, kinds := [], alts := [], laidByText := true, laidKinds := [.data, .data, .data, .data, .sentinel, .sentinel, .pinned], laidTests := true, laidLooks := .later }
def FnExactDateOfCardSaid : Prop := Claim7.holds Tryz.pinned (.plain (OpenSpec.ofChange fnExactDateOfSpec)) fnExactDateOfCard

/-- THE TIED CARD OF 'laws.FnExactAgeFirst'. -/
def fnExactAgeFirstCard : Claim7 := { stood := { row := fnExactAgeFirstRow, standIns := [], harness := (true, "bddcde135e9c0ca02eed9bb89ab5a5ef7e25ae5db270f3084ef9de104a1cf258"), looks := true }, kinds := [], alts := [], laidByText := true, laidKinds := [.data, .data, .data, .data, .sentinel, .sentinel, .pinned], laidTests := true, laidLooks := .later }
def FnExactAgeFirstCardSaid : Prop := Claim7.holds Tryz.pinned (.plain (OpenSpec.ofChange fnExactAgeFirstSpec)) fnExactAgeFirstCard

/-- THE TIED CARD OF 'laws.FnExactAgeAt'. -/
def fnExactAgeAtCard : Claim7 := { stood := { row := fnExactAgeAtRow, standIns := [], harness := (true, "bddcde135e9c0ca02eed9bb89ab5a5ef7e25ae5db270f3084ef9de104a1cf258"), looks := true }, kinds := [], alts := [], laidByText := true, laidKinds := [.data, .data, .data, .data, .sentinel, .sentinel, .pinned], laidTests := true, laidLooks := .later }
def FnExactAgeAtCardSaid : Prop := Claim7.holds Tryz.pinned (.plain (OpenSpec.ofChange fnExactAgeAtSpec)) fnExactAgeAtCard

/-- THE TIED CARD OF 'laws.FnExactLifetime'. -/
def fnExactLifetimeCard : Claim7 := { stood := { row := fnExactLifetimeRow, standIns := [], harness := (true, "bddcde135e9c0ca02eed9bb89ab5a5ef7e25ae5db270f3084ef9de104a1cf258"), looks := true }, kinds := [], alts := [], laidByText := true, laidKinds := [.data, .data, .data, .data, .sentinel, .sentinel, .pinned], laidTests := true, laidLooks := .later }
def FnExactLifetimeCardSaid : Prop := Claim7.holds Tryz.pinned (.plain (OpenSpec.ofChange fnExactLifetimeSpec)) fnExactLifetimeCard

/-- THE TIED CARD OF 'laws.FnExactFreshAt'. -/
def fnExactFreshAtCard : Claim7 := { stood := { row := fnExactFreshAtRow, standIns := [], harness := (true, "bddcde135e9c0ca02eed9bb89ab5a5ef7e25ae5db270f3084ef9de104a1cf258"), looks := true }, kinds := [], alts := [], laidByText := true, laidKinds := [.data, .data, .data, .data, .sentinel, .sentinel, .pinned], laidTests := true, laidLooks := .later }
def FnExactFreshAtCardSaid : Prop := Claim7.holds Tryz.pinned (.plain (OpenSpec.ofChange fnExactFreshAtSpec)) fnExactFreshAtCard

/-- THE TIED CARD OF 'laws.FnExactUseAt'. -/
def fnExactUseAtCard : Claim7 := { stood := { row := fnExactUseAtRow, standIns := [], harness := (true, "bddcde135e9c0ca02eed9bb89ab5a5ef7e25ae5db270f3084ef9de104a1cf258"), looks := true }, kinds := [], alts := [], laidByText := true, laidKinds := [.data, .data, .data, .data, .sentinel, .sentinel, .pinned], laidTests := true, laidLooks := .later }
def FnExactUseAtCardSaid : Prop := Claim7.holds Tryz.pinned (.plain (OpenSpec.ofChange fnExactUseAtSpec)) fnExactUseAtCard

/-- THE SECOND FORM's CARD OF 'laws.FnExactEntryOk'. -/
def fnExactEntryOkUptoCard : Claim7 := { stood := { row := fnExactEntryOkUptoRow, standIns := [], harness := (true, "bddcde135e9c0ca02eed9bb89ab5a5ef7e25ae5db270f3084ef9de104a1cf258"), looks := true }, kinds := [], alts := [], laidByText := true, laidKinds := [.data, .data, .data, .data, .sentinel, .sentinel, .pinned], laidTests := true, laidLooks := .later }
def FnExactEntryOkUptoCardSaid : Prop := Claim7.holds Tryz.pinned (.plain (OpenSpec.upto fnExactEntryOkSpec)) fnExactEntryOkUptoCard

/-- THE SECOND FORM's CARD OF 'laws.FnExactDateOf'. -/
def fnExactDateOfUptoCard : Claim7 := { stood := { row := fnExactDateOfUptoRow, standIns := [], harness := (true, "bddcde135e9c0ca02eed9bb89ab5a5ef7e25ae5db270f3084ef9de104a1cf258"), looks := true }, kinds := [], alts := [], laidByText := true, laidKinds := [.data, .data, .data, .data, .sentinel, .sentinel, .pinned], laidTests := true, laidLooks := .later }
def FnExactDateOfUptoCardSaid : Prop := Claim7.holds Tryz.pinned (.plain (OpenSpec.upto fnExactDateOfSpec)) fnExactDateOfUptoCard

/-- THE SECOND FORM's CARD OF 'laws.FnExactAgeFirst'. -/
def fnExactAgeFirstUptoCard : Claim7 := { stood := { row := fnExactAgeFirstUptoRow, standIns := [], harness := (true, "bddcde135e9c0ca02eed9bb89ab5a5ef7e25ae5db270f3084ef9de104a1cf258"), looks := true }, kinds := [], alts := [], laidByText := true, laidKinds := [.data, .data, .data, .data, .sentinel, .sentinel, .pinned], laidTests := true, laidLooks := .later }
def FnExactAgeFirstUptoCardSaid : Prop := Claim7.holds Tryz.pinned (.plain (OpenSpec.upto fnExactAgeFirstSpec)) fnExactAgeFirstUptoCard

/-- THE SECOND FORM's CARD OF 'laws.FnExactAgeAt'. -/
def fnExactAgeAtUptoCard : Claim7 := { stood := { row := fnExactAgeAtUptoRow, standIns := [], harness := (true, "bddcde135e9c0ca02eed9bb89ab5a5ef7e25ae5db270f3084ef9de104a1cf258"), looks := true }, kinds := [], alts := [], laidByText := true, laidKinds := [.data, .data, .data, .data, .sentinel, .sentinel, .pinned], laidTests := true, laidLooks := .later }
def FnExactAgeAtUptoCardSaid : Prop := Claim7.holds Tryz.pinned (.plain (OpenSpec.upto fnExactAgeAtSpec)) fnExactAgeAtUptoCard

/-- THE SECOND FORM's CARD OF 'laws.FnExactLifetime'. -/
def fnExactLifetimeUptoCard : Claim7 := { stood := { row := fnExactLifetimeUptoRow, standIns := [], harness := (true, "bddcde135e9c0ca02eed9bb89ab5a5ef7e25ae5db270f3084ef9de104a1cf258"), looks := true }, kinds := [], alts := [], laidByText := true, laidKinds := [.data, .data, .data, .data, .sentinel, .sentinel, .pinned], laidTests := true, laidLooks := .later }
def FnExactLifetimeUptoCardSaid : Prop := Claim7.holds Tryz.pinned (.plain (OpenSpec.upto fnExactLifetimeSpec)) fnExactLifetimeUptoCard

/-- THE SECOND FORM's CARD OF 'laws.FnExactFreshAt'. -/
def fnExactFreshAtUptoCard : Claim7 := { stood := { row := fnExactFreshAtUptoRow, standIns := [], harness := (true, "bddcde135e9c0ca02eed9bb89ab5a5ef7e25ae5db270f3084ef9de104a1cf258"), looks := true }, kinds := [], alts := [], laidByText := true, laidKinds := [.data, .data, .data, .data, .sentinel, .sentinel, .pinned], laidTests := true, laidLooks := .later }
def FnExactFreshAtUptoCardSaid : Prop := Claim7.holds Tryz.pinned (.plain (OpenSpec.upto fnExactFreshAtSpec)) fnExactFreshAtUptoCard

/-- THE SECOND FORM's CARD OF 'laws.FnExactUseAt'. -/
def fnExactUseAtUptoCard : Claim7 := { stood := { row := fnExactUseAtUptoRow, standIns := [], harness := (true, "bddcde135e9c0ca02eed9bb89ab5a5ef7e25ae5db270f3084ef9de104a1cf258"), looks := true }, kinds := [], alts := [], laidByText := true, laidKinds := [.data, .data, .data, .data, .sentinel, .sentinel, .pinned], laidTests := true, laidLooks := .later }
def FnExactUseAtUptoCardSaid : Prop := Claim7.holds Tryz.pinned (.plain (OpenSpec.upto fnExactUseAtSpec)) fnExactUseAtUptoCard
end Rows
end Go.Proofs.YtfhllanhldbkkaaGreatDoor
