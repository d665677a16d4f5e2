/-
  It is proved that the law CodeTexts answers true for all codes whose bulk is at most 1048576 and leaves them as they were, where the listed variables of Go's library hold what the program's text lays; and the tied card.
-/
import Derived.Test.YtbjfaimkiclhgaaGreatDoorCt24
set_option linter.all false
namespace Go.Proofs.YtbjfaimkiclhgaaGreatDoor
open Go.Proofs.Tryz
open Go.ChangeShapes Go.WideShapes Go.ChangeAt Go.RowKit Go.Lib
theorem codeTexts_card:Rows.CodeTextsUptoCardSaid:=
 Claim7.holds_tied_plain_at .later [] _ _ _ _ ctx_said (λ_ h=>by cases h) (by kernel_rfl) (λ_ h=>by cases h) codeTextsUpto_row_tie rfl ⟨rfl,rfl⟩ (by kernel_rfl) rfl ctx_plain (by kernel_rfl)
#print axioms codeTexts_card
end Go.Proofs.YtbjfaimkiclhgaaGreatDoor
