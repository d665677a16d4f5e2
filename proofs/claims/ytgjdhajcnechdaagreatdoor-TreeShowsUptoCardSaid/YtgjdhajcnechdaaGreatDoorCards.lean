/-
  DERIVED. GIVEN WITH THE SEED: THE CARDS: each row of YtgjdhajcnechdaaGreatDoorRows.lean that lists a variable, with what it lists TIED to the program's text (the seventh form; the later family's looks); each row that meets fmt, with fmt's text TOLD by the authors' own Lean function (tested against real Go, not proved from fmt's source: count such statements apart). THE CARD IS WHAT COUNTS. Prove the row's statement (the work); the ties are given (YtgjdhajcnechdaaGreatDoorTie.lean); close each card by the builder's one call (the guide's Derived/Test/ToyasCard.lean, 'card_holds'). Laid BY PROGRAM, IN A SANDBOX (cutbox-door.mjs). By AI agents, Wed Nov 11 2026. No macro, syntax, notation, axiom, sorry.
-/
import Derived.Test.YtgjdhajcnechdaaGreatDoorRows
import GoSem.ClaimSeven
namespace Go.Proofs.YtgjdhajcnechdaaGreatDoor
namespace Rows

/-- THE TIED CARD OF 'cabinetrylaw06.TreeSwaps'. -/
def treeSwapsCard : Claim7 := { stood := { row := treeSwapsRow, standIns := [], harness := (true, "4ee5910a1e7087e42110285a8b1c0eeab184fa3c534b46a95cdaa8d28ba954d1"), looks := true }, kinds := [], alts := [], laidByText := true, laidKinds := [.data, .data, .data, .data, .sentinel, .sentinel, .listed, .data, .pinned, .pinned], laidTests := true, laidLooks := .later }
def TreeSwapsCardSaid : Prop := Claim7.holds Tryz.pinned (.plain (OpenSpec.ofChange treeSwapsSpec)) treeSwapsCard

/-- THE TIED CARD OF 'cabinetrylaw06.TreeExprBack'. -/
def treeExprBackCard : Claim7 := { stood := { row := treeExprBackRow, standIns := [], harness := (true, "4ee5910a1e7087e42110285a8b1c0eeab184fa3c534b46a95cdaa8d28ba954d1"), looks := true }, kinds := [], alts := [], laidByText := true, laidKinds := [.data, .data, .data, .data, .sentinel, .sentinel, .listed, .data, .pinned, .pinned], laidTests := true, laidLooks := .later }
def TreeExprBackCardSaid : Prop := Claim7.holds Tryz.pinned (.plain (OpenSpec.ofChange treeExprBackSpec)) treeExprBackCard

/-- THE TIED CARD OF 'cabinetrylaw06.TreeShows'. -/
def treeShowsCard : Claim7 := { stood := { row := treeShowsRow, standIns := [], harness := (true, "4ee5910a1e7087e42110285a8b1c0eeab184fa3c534b46a95cdaa8d28ba954d1"), looks := true }, kinds := [], alts := [], laidByText := true, laidKinds := [.data, .data, .data, .data, .sentinel, .sentinel, .listed, .data, .pinned, .pinned], laidTests := true, laidLooks := .later }
def TreeShowsCardSaid : Prop := Claim7.holds Tryz.pinned (.plain (OpenSpec.ofChange treeShowsSpec)) treeShowsCard

/-- THE SECOND FORM's CARD OF 'cabinetrylaw06.TreeSwaps'. -/
def treeSwapsUptoCard : Claim7 := { stood := { row := treeSwapsUptoRow, standIns := [], harness := (true, "4ee5910a1e7087e42110285a8b1c0eeab184fa3c534b46a95cdaa8d28ba954d1"), looks := true }, kinds := [], alts := [], laidByText := true, laidKinds := [.data, .data, .data, .data, .sentinel, .sentinel, .listed, .data, .pinned, .pinned], laidTests := true, laidLooks := .later }
def TreeSwapsUptoCardSaid : Prop := Claim7.holds Tryz.pinned (.plain (OpenSpec.upto treeSwapsSpec)) treeSwapsUptoCard

/-- THE SECOND FORM's CARD OF 'cabinetrylaw06.TreeExprBack'. -/
def treeExprBackUptoCard : Claim7 := { stood := { row := treeExprBackUptoRow, standIns := [], harness := (true, "4ee5910a1e7087e42110285a8b1c0eeab184fa3c534b46a95cdaa8d28ba954d1"), looks := true }, kinds := [], alts := [], laidByText := true, laidKinds := [.data, .data, .data, .data, .sentinel, .sentinel, .listed, .data, .pinned, .pinned], laidTests := true, laidLooks := .later }
def TreeExprBackUptoCardSaid : Prop := Claim7.holds Tryz.pinned (.plain (OpenSpec.upto treeExprBackSpec)) treeExprBackUptoCard

/-- THE SECOND FORM's CARD OF 'cabinetrylaw06.TreeShows'. -/
def treeShowsUptoCard : Claim7 := { stood := { row := treeShowsUptoRow, standIns := [], harness := (true, "4ee5910a1e7087e42110285a8b1c0eeab184fa3c534b46a95cdaa8d28ba954d1"), looks := true }, kinds := [], alts := [], laidByText := true, laidKinds := [.data, .data, .data, .data, .sentinel, .sentinel, .listed, .data, .pinned, .pinned], laidTests := true, laidLooks := .later }
def TreeShowsUptoCardSaid : Prop := Claim7.holds Tryz.pinned (.plain (OpenSpec.upto treeShowsSpec)) treeShowsUptoCard
end Rows
end Go.Proofs.YtgjdhajcnechdaaGreatDoor
