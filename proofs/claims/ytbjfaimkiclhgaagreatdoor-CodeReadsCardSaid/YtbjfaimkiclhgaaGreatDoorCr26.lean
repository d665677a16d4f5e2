/-
  It is proved that the law CodeReads answers true for all texts and leaves them as they were, where the listed variables of Go's library hold what the program's text lays; and the tied card.
-/
import Derived.Test.YtbjfaimkiclhgaaGreatDoorCr25
set_option linter.all false
namespace Go.Proofs.YtbjfaimkiclhgaaGreatDoor
open Go.Proofs.Tryz
open Go.ChangeShapes Go.WideShapes Go.ChangeAt Go.RowKit Go.Lib
open Go.ChangeMaps (open_string shut_string)
theorem codeReads_card:Rows.CodeReadsCardSaid:=
 Claim7.holds_tied_plain_at .later [] _ _ _ _ crd_said (λ_ h=>by cases h) (by kernel_rfl) (λ_ h=>by cases h) codeReads_row_tie rfl ⟨rfl,rfl⟩ (by kernel_rfl) rfl crd_plain (by kernel_rfl)
#print axioms codeReads_card
end Go.Proofs.YtbjfaimkiclhgaaGreatDoor
