/-
  The closed facts of the row of TreeExprBack.
-/
import Derived.Test.YtgjdhajcnechdaaGreatDoorRows
import Derived.JoinedOf
import Derived.KernelRfl
set_option linter.all false
namespace Go.Proofs.YtgjdhajcnechdaaGreatDoor
open Go
theorem JP{a b:Bool}(h1:a=true)(h2:b=true):(a&&b)=true:=by rw[h1,h2];rfl
theorem Ir:(Rows.treeExprBackUptoRow.inPlace==Tryz.prog.inPlace 4)=true:=by kernel_rfl
theorem He:(Rows.treeExprBackUptoRow.unfollowed==Tryz.prog.unfollowed 4)=true:=by kernel_rfl
theorem Hh:(Rows.treeExprBackUptoRow.recurses==Tryz.prog.recurses 4)=true:=by kernel_rfl
theorem JS:(Rows.treeExprBackUptoRow.named==Tryz.prog.varsNamed 4)=true:=by kernel_rfl
set_option maxRecDepth 100000 in
set_option maxHeartbeats 4000000 in
theorem JR:joinedFacts Tryz.prog 4 Tryz.f4 (Rows.OpenSpec.upto Rows.treeExprBackSpec).bare Rows.treeExprBackUptoRow=true:=by
 unfold joinedFacts
 repeat' (with_reducible refine JP ?_ ?_)
 all_goals(first| (with_reducible exact Ir)| (with_reducible exact He)| (with_reducible exact Hh)| (with_reducible exact JS)| (as_aux_lemma=>kernel_rfl))
end Go.Proofs.YtgjdhajcnechdaaGreatDoor
