/-
  The closed facts of the row of TreeExprSames.
-/
import Derived.Test.YtmcajbhljbbglaaGreatDoorRows
import Derived.JoinedOf
import Derived.KernelRfl
set_option linter.all false
set_option linter.unusedVariables false
set_option linter.unusedSimpArgs false
set_option linter.unnecessarySimpa false
set_option linter.constructorNameAsVariable false
set_option linter.deprecated false

namespace Go.Proofs.YtmcajbhljbbglaaGreatDoor
open Go

theorem and_intro {a b : Bool} (h1 : a = true) (h2 : b = true) : (a && b) = true := by rw [h1, h2]; rfl
theorem sames_inPlace : (Rows.treeExprSamesRow.inPlace == Tryz.prog.inPlace 5) = true := by kernel_rfl
theorem sames_unfollowed : (Rows.treeExprSamesRow.unfollowed == Tryz.prog.unfollowed 5) = true := by kernel_rfl
theorem sames_recurses : (Rows.treeExprSamesRow.recurses == Tryz.prog.recurses 5) = true := by kernel_rfl
theorem sames_named : (Rows.treeExprSamesRow.named == Tryz.prog.varsNamed 5) = true := by kernel_rfl
set_option maxRecDepth 100000 in
set_option maxHeartbeats 4000000 in
theorem sames_facts : joinedFacts Tryz.prog 5 Tryz.f5 Rows.treeExprSamesSpec Rows.treeExprSamesRow = true := by
  unfold joinedFacts
  repeat' (with_reducible refine and_intro ?_ ?_)
  all_goals (first | (with_reducible exact sames_inPlace) | (with_reducible exact sames_unfollowed) | (with_reducible exact sames_recurses) | (with_reducible exact sames_named) | (as_aux_lemma => kernel_rfl))

end Go.Proofs.YtmcajbhljbbglaaGreatDoor
