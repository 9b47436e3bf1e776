/-
  DERIVED. GIVEN WITH THE SEED: THE CARDS: each row of YtahgiblifkchaaaDoorRows.lean that lists a variable, with what it lists TIED to the program's text (the seventh form; the later family's looks); each row that meets fmt, with fmt's text TOLD by the authors' own Lean function (tested against real Go, not proved from fmt's source: count such statements apart). THE CARD IS WHAT COUNTS. Prove the row's statement (the work); the ties are given (YtahgiblifkchaaaDoorTie.lean); close each card by the builder's one call (the guide's Derived/Test/ToyasCard.lean, 'card_holds'). Laid BY PROGRAM, IN A SANDBOX (cutbox-door.mjs). By AI agents, Wed Nov 11 2026. No macro, syntax, notation, axiom, sorry.
-/
import Derived.Test.YtahgiblifkchaaaDoorRows
import GoSem.ClaimSeven
namespace Go.Proofs.YtahgiblifkchaaaDoor
namespace Rows

/-- THE TIED CARD OF 'laws.FnExactDirsText'. -/
def fnExactDirsTextCard : Claim7 := { stood := { row := fnExactDirsTextRow, standIns := [], harness := (true, "5a5e72fd141c54d542f9578025e099ac4a6eba32e172d3a02d69e144f6440a1e"), looks := false }, kinds := [], alts := [], laidByText := true, laidKinds := [.data, .data, .data], laidTests := true, laidLooks := .later }
def FnExactDirsTextCardSaid : Prop := Claim7.holds Tryd.pinned (.plain (OpenSpec.ofChange fnExactDirsTextSpec)) fnExactDirsTextCard

/-- THE TIED CARD OF 'laws.FnDirs'. -/
def fnDirsCard : Claim7 := { stood := { row := fnDirsRow, standIns := [], harness := (true, "5a5e72fd141c54d542f9578025e099ac4a6eba32e172d3a02d69e144f6440a1e"), looks := false }, kinds := [], alts := [], laidByText := true, laidKinds := [.data, .data, .data], laidTests := true, laidLooks := .later }
def FnDirsCardSaid : Prop := Claim7.holds Tryd.pinned (.plain (OpenSpec.ofChange fnDirsSpec)) fnDirsCard

/-- THE TIED CARD OF 'laws.FnDeltas'. -/
def fnDeltasCard : Claim7 := { stood := { row := fnDeltasRow, standIns := [], harness := (true, "5a5e72fd141c54d542f9578025e099ac4a6eba32e172d3a02d69e144f6440a1e"), looks := false }, kinds := [], alts := [], laidByText := true, laidKinds := [.data, .data, .data], laidTests := true, laidLooks := .later }
def FnDeltasCardSaid : Prop := Claim7.holds Tryd.pinned (.plain (OpenSpec.ofChange fnDeltasSpec)) fnDeltasCard

/-- THE SECOND FORM's CARD OF 'laws.FnExactDirsText'. -/
def fnExactDirsTextUptoCard : Claim7 := { stood := { row := fnExactDirsTextUptoRow, standIns := [], harness := (true, "5a5e72fd141c54d542f9578025e099ac4a6eba32e172d3a02d69e144f6440a1e"), looks := false }, kinds := [], alts := [], laidByText := true, laidKinds := [.data, .data, .data], laidTests := true, laidLooks := .later }
def FnExactDirsTextUptoCardSaid : Prop := Claim7.holds Tryd.pinned (.plain (OpenSpec.upto fnExactDirsTextSpec)) fnExactDirsTextUptoCard

/-- THE SECOND FORM's CARD OF 'laws.FnDirs'. -/
def fnDirsUptoCard : Claim7 := { stood := { row := fnDirsUptoRow, standIns := [], harness := (true, "5a5e72fd141c54d542f9578025e099ac4a6eba32e172d3a02d69e144f6440a1e"), looks := false }, kinds := [], alts := [], laidByText := true, laidKinds := [.data, .data, .data], laidTests := true, laidLooks := .later }
def FnDirsUptoCardSaid : Prop := Claim7.holds Tryd.pinned (.plain (OpenSpec.upto fnDirsSpec)) fnDirsUptoCard

/-- THE SECOND FORM's CARD OF 'laws.FnDeltas'. -/
def fnDeltasUptoCard : Claim7 := { stood := { row := fnDeltasUptoRow, standIns := [], harness := (true, "5a5e72fd141c54d542f9578025e099ac4a6eba32e172d3a02d69e144f6440a1e"), looks := false }, kinds := [], alts := [], laidByText := true, laidKinds := [.data, .data, .data], laidTests := true, laidLooks := .later }
def FnDeltasUptoCardSaid : Prop := Claim7.holds Tryd.pinned (.plain (OpenSpec.upto fnDeltasSpec)) fnDeltasUptoCard
end Rows
end Go.Proofs.YtahgiblifkchaaaDoor
