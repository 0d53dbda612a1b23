/-
  DERIVED. GIVEN WITH THE SEED: THE CARDS: each row of YtnmfbmfefjcnfaaGreatDoorRows.lean that lists a variable, with what it lists TIED to the program's text (the seventh form; the later family's looks); each row that meets fmt, with fmt's text TOLD by the authors' own Lean function (tested against real Go, not proved from fmt's source: count such statements apart). THE CARD IS WHAT COUNTS. Prove the row's statement (the work); the ties are given (YtnmfbmfefjcnfaaGreatDoorTie.lean); close each card by the builder's one call (the guide's Derived/Test/ToyasCard.lean, 'card_holds'). Laid BY PROGRAM, IN A SANDBOX (cutbox-door.mjs). By AI agents, Wed Nov 11 2026. No macro, syntax, notation, axiom, sorry.
-/
import Derived.Test.YtnmfbmfefjcnfaaGreatDoorRows
import GoSem.ClaimSeven
namespace Go.Proofs.YtnmfbmfefjcnfaaGreatDoor
namespace Rows

/-- THE TIED CARD OF 'pandectlaw49.OfficeKeys'. -/
def officeKeysCard : Claim7 := { stood := { row := officeKeysRow, standIns := [], harness := (true, "ac60ddd9a8ce84d23db0ff91d174b1a0b286651bbe4167f48d77915a97399ac5"), looks := true }, kinds := [], alts := [], laidByText := true, laidKinds := [.data, .data, .data, .pinned, .data, .sentinel, .sentinel], laidTests := true, laidLooks := .later }
def OfficeKeysCardSaid : Prop := Claim7.holds Tryz.pinned (.plain (OpenSpec.ofChange officeKeysSpec)) officeKeysCard

/-- THE SECOND FORM's CARD OF 'pandectlaw49.OfficeKeys'. -/
def officeKeysUptoCard : Claim7 := { stood := { row := officeKeysUptoRow, standIns := [], harness := (true, "ac60ddd9a8ce84d23db0ff91d174b1a0b286651bbe4167f48d77915a97399ac5"), looks := true }, kinds := [], alts := [], laidByText := true, laidKinds := [.data, .data, .data, .pinned, .data, .sentinel, .sentinel], laidTests := true, laidLooks := .later }
def OfficeKeysUptoCardSaid : Prop := Claim7.holds Tryz.pinned (.plain (OpenSpec.upto officeKeysSpec)) officeKeysUptoCard
end Rows
end Go.Proofs.YtnmfbmfefjcnfaaGreatDoor
