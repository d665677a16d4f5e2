/-
  DERIVED. GIVEN WITH THE SEED: THE CARDS: each row of YtahbajmkhjngiaaGreatDoorRows.lean that lists a variable, with what it lists TIED to the program's text (the seventh form; the later family's looks); each row that meets fmt, with fmt's text TOLD by the authors' own Lean function (tested against real Go, not proved from fmt's source: count such statements apart). THE CARD IS WHAT COUNTS. Prove the row's statement (the work); the ties are given (YtahbajmkhjngiaaGreatDoorTie.lean); close each card by the builder's one call (the guide's Derived/Test/ToyasCard.lean, 'card_holds'). Laid BY PROGRAM, IN A SANDBOX (cutbox-door.mjs). By AI agents, Wed Nov 11 2026. No macro, syntax, notation, axiom, sorry.
-/
import Derived.Test.YtahbajmkhjngiaaGreatDoorRows
import GoSem.ClaimSeven
namespace Go.Proofs.YtahbajmkhjngiaaGreatDoor
namespace Rows

/-- THE TIED CARD OF 'cabinetrylaw22.CodeSames'. -/
def codeSamesCard : Claim7 := { stood := { row := codeSamesRow, standIns := [], harness := (true, "684ca2fef4ed41051008e7e2fb859471227f45ab51162140e094093993c1c5b2"), looks := true }, kinds := [], alts := [], laidByText := true, laidKinds := [.data, .data, .data, .data, .sentinel, .sentinel, .listed, .data, .pinned, .pinned], laidTests := true, laidLooks := .later }
def CodeSamesCardSaid : Prop := Claim7.holds Tryz.pinned (.plain (OpenSpec.ofChange codeSamesSpec)) codeSamesCard

/-- THE SECOND FORM's CARD OF 'cabinetrylaw22.CodeSames'. -/
def codeSamesUptoCard : Claim7 := { stood := { row := codeSamesUptoRow, standIns := [], harness := (true, "684ca2fef4ed41051008e7e2fb859471227f45ab51162140e094093993c1c5b2"), looks := true }, kinds := [], alts := [], laidByText := true, laidKinds := [.data, .data, .data, .data, .sentinel, .sentinel, .listed, .data, .pinned, .pinned], laidTests := true, laidLooks := .later }
def CodeSamesUptoCardSaid : Prop := Claim7.holds Tryz.pinned (.plain (OpenSpec.upto codeSamesSpec)) codeSamesUptoCard
end Rows
end Go.Proofs.YtahbajmkhjngiaaGreatDoor
