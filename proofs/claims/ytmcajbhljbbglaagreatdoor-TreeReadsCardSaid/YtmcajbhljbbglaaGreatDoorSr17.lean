/-
  The closed facts of the row of TreeReads.
-/
import Derived.Test.YtmcajbhljbbglaaGreatDoorRows
import Derived.JoinedOf
import Derived.KernelRfl
set_option linter.all false
set_option linter.unusedVariables false
set_option linter.unusedSimpArgs false
set_option linter.unnecessarySimpa false
set_option linter.constructorNameAsVariable false
set_option linter.deprecated false

namespace Go.Proofs.YtmcajbhljbbglaaGreatDoor
open Go

theorem and_introE {a b : Bool} (h1 : a = true) (h2 : b = true) : (a && b) = true := by rw [h1, h2]; rfl
theorem reads_inPlace : (Rows.treeReadsRow.inPlace == Tryz.prog.inPlace 3) = true := by kernel_rfl
theorem reads_unfollowed : (Rows.treeReadsRow.unfollowed == Tryz.prog.unfollowed 3) = true := by kernel_rfl
theorem reads_recurses : (Rows.treeReadsRow.recurses == Tryz.prog.recurses 3) = true := by kernel_rfl
theorem reads_named : (Rows.treeReadsRow.named == Tryz.prog.varsNamed 3) = true := by kernel_rfl
set_option maxRecDepth 100000 in
set_option maxHeartbeats 4000000 in
theorem reads_facts : joinedFacts Tryz.prog 3 Tryz.f3 Rows.treeReadsSpec Rows.treeReadsRow = true := by
  unfold joinedFacts
  repeat' (with_reducible refine and_introE ?_ ?_)
  all_goals (first | (with_reducible exact reads_inPlace) | (with_reducible exact reads_unfollowed) | (with_reducible exact reads_recurses) | (with_reducible exact reads_named) | (as_aux_lemma => kernel_rfl))

end Go.Proofs.YtmcajbhljbbglaaGreatDoor
