/-
  DERIVED. GIVEN WITH THE SEED: THE CARDS: each row of YtonmpnghlopnoaaGreatDoorRows.lean that lists a variable, with what it lists TIED to the program's text (the seventh form; the later family's looks); each row that meets fmt, with fmt's text TOLD by the authors' own Lean function (tested against real Go, not proved from fmt's source: count such statements apart). THE CARD IS WHAT COUNTS. Prove the row's statement (the work); the ties are given (YtonmpnghlopnoaaGreatDoorTie.lean); close each card by the builder's one call (the guide's Derived/Test/ToyasCard.lean, 'card_holds'). Laid BY PROGRAM, IN A SANDBOX (cutbox-door.mjs). By AI agents, Wed Nov 11 2026. No macro, syntax, notation, axiom, sorry.
-/
import Derived.Test.YtonmpnghlopnoaaGreatDoorRows
import GoSem.ClaimSeven
namespace Go.Proofs.YtonmpnghlopnoaaGreatDoor
namespace Rows

/-- THE TIED CARD OF 'laws.FnExactReadHead'. -/
def fnExactReadHeadCard : Claim7 := { stood := { row := fnExactReadHeadRow, standIns := [], harness := (true, "dc8dc4614e6f8f4f6961b36e651b5d94d300d5a361b00ca116b88b4f86d16a0a"), looks := true }, kinds := [], alts := [], laidByText := true, laidKinds := [.data, .data, .data, .data, .sentinel, .sentinel, .pinned], laidTests := true, laidLooks := .later }
def FnExactReadHeadCardSaid : Prop := Claim7.holds Tryz.pinned (.plain (OpenSpec.ofChange fnExactReadHeadSpec)) fnExactReadHeadCard

/-- THE TIED CARD OF 'laws.FnExactReadAnswer'. -/
def fnExactReadAnswerCard : Claim7 := { stood := { row := fnExactReadAnswerRow, standIns := [], harness := (true, "dc8dc4614e6f8f4f6961b36e651b5d94d300d5a361b00ca116b88b4f86d16a0a"), looks := true }, kinds := [], alts := [], laidByText := true, laidKinds := [.data, .data, .data, .data, .sentinel, .sentinel, .pinned], laidTests := true, laidLooks := .later }
def FnExactReadAnswerCardSaid : Prop := Claim7.holds Tryz.pinned (.plain (OpenSpec.ofChange fnExactReadAnswerSpec)) fnExactReadAnswerCard

/-- THE TIED CARD OF 'laws.FnExactReadRequest'. -/
def fnExactReadRequestCard : Claim7 := { stood := { row := fnExactReadRequestRow, standIns := [], harness := (true, "dc8dc4614e6f8f4f6961b36e651b5d94d300d5a361b00ca116b88b4f86d16a0a"), looks := true }, kinds := [], alts := [], laidByText := true, laidKinds := [.data, .data, .data, .data, .sentinel, .sentinel, .pinned], laidTests := true, laidLooks := .later }
def FnExactReadRequestCardSaid : Prop := Claim7.holds Tryz.pinned (.plain (OpenSpec.ofChange fnExactReadRequestSpec)) fnExactReadRequestCard

/-- THE SECOND FORM's CARD OF 'laws.FnExactReadHead'. -/
def fnExactReadHeadUptoCard : Claim7 := { stood := { row := fnExactReadHeadUptoRow, standIns := [], harness := (true, "dc8dc4614e6f8f4f6961b36e651b5d94d300d5a361b00ca116b88b4f86d16a0a"), looks := true }, kinds := [], alts := [], laidByText := true, laidKinds := [.data, .data, .data, .data, .sentinel, .sentinel, .pinned], laidTests := true, laidLooks := .later }
def FnExactReadHeadUptoCardSaid : Prop := Claim7.holds Tryz.pinned (.plain (OpenSpec.upto fnExactReadHeadSpec)) fnExactReadHeadUptoCard

/-- THE SECOND FORM's CARD OF 'laws.FnExactReadAnswer'. -/
def fnExactReadAnswerUptoCard : Claim7 := { stood := { row := fnExactReadAnswerUptoRow, standIns := [], harness := (true, "dc8dc4614e6f8f4f6961b36e651b5d94d300d5a361b00ca116b88b4f86d16a0a"), looks := true }, kinds := [], alts := [], laidByText := true, laidKinds := [.data, .data, .data, .data, .sentinel, .sentinel, .pinned], laidTests := true, laidLooks := .later }
def FnExactReadAnswerUptoCardSaid : Prop := Claim7.holds Tryz.pinned (.plain (OpenSpec.upto fnExactReadAnswerSpec)) fnExactReadAnswerUptoCard

/-- THE SECOND FORM's CARD OF 'laws.FnExactReadRequest'. -/
def fnExactReadRequestUptoCard : Claim7 := { stood := { row := fnExactReadRequestUptoRow, standIns := [], harness := (true, "dc8dc4614e6f8f4f6961b36e651b5d94d300d5a361b00ca116b88b4f86d16a0a"), looks := true }, kinds := [], alts := [], laidByText := true, laidKinds := [.data, .data, .data, .data, .sentinel, .sentinel, .pinned], laidTests := true, laidLooks := .later }
def FnExactReadRequestUptoCardSaid : Prop := Claim7.holds Tryz.pinned (.plain (OpenSpec.upto fnExactReadRequestSpec)) fnExactReadRequestUptoCard
end Rows
end Go.Proofs.YtonmpnghlopnoaaGreatDoor
