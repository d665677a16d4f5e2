/-
  The closed facts of the row of TreeSames.
-/
import Derived.Test.YtmcajbhljbbglaaGreatDoorRows
import Derived.JoinedOf
import Derived.KernelRfl
set_option linter.all false
set_option linter.unusedVariables false
set_option linter.unusedSimpArgs false
set_option linter.unnecessarySimpa false
set_option linter.constructorNameAsVariable false
set_option linter.deprecated false

namespace Go.Proofs.YtmcajbhljbbglaaGreatDoor
open Go

theorem and_intro2 {a b : Bool} (h1 : a = true) (h2 : b = true) : (a && b) = true := by rw [h1, h2]; rfl
theorem psames_inPlace : (Rows.treeSamesRow.inPlace == Tryz.prog.inPlace 6) = true := by kernel_rfl
theorem psames_unfollowed : (Rows.treeSamesRow.unfollowed == Tryz.prog.unfollowed 6) = true := by kernel_rfl
theorem psames_recurses : (Rows.treeSamesRow.recurses == Tryz.prog.recurses 6) = true := by kernel_rfl
theorem psames_named : (Rows.treeSamesRow.named == Tryz.prog.varsNamed 6) = true := by kernel_rfl
set_option maxRecDepth 100000 in
set_option maxHeartbeats 4000000 in
theorem psames_facts : joinedFacts Tryz.prog 6 Tryz.f6 Rows.treeSamesSpec Rows.treeSamesRow = true := by
  unfold joinedFacts
  repeat' (with_reducible refine and_intro2 ?_ ?_)
  all_goals (first | (with_reducible exact psames_inPlace) | (with_reducible exact psames_unfollowed) | (with_reducible exact psames_recurses) | (with_reducible exact psames_named) | (as_aux_lemma => kernel_rfl))

end Go.Proofs.YtmcajbhljbbglaaGreatDoor
