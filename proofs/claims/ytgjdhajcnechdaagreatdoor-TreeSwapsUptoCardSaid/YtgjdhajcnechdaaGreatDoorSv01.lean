/-
  The closed facts of the row of TreeSwaps.
-/
import Derived.Test.YtgjdhajcnechdaaGreatDoorRows
import Derived.JoinedOf
import Derived.KernelRfl
set_option linter.all false
namespace Go.Proofs.YtgjdhajcnechdaaGreatDoor
open Go
theorem M9{a b:Bool}(h1:a=true)(h2:b=true):(a&&b)=true:=by rw[h1,h2];rfl
theorem KG:(Rows.treeSwapsUptoRow.inPlace==Tryz.prog.inPlace 3)=true:=by kernel_rfl
theorem JW:(Rows.treeSwapsUptoRow.unfollowed==Tryz.prog.unfollowed 3)=true:=by kernel_rfl
theorem Ko:(Rows.treeSwapsUptoRow.recurses==Tryz.prog.recurses 3)=true:=by kernel_rfl
theorem L3:(Rows.treeSwapsUptoRow.named==Tryz.prog.varsNamed 3)=true:=by kernel_rfl
set_option maxRecDepth 100000 in
set_option maxHeartbeats 4000000 in
theorem L2:joinedFacts Tryz.prog 3 Tryz.f3 (Rows.OpenSpec.upto Rows.treeSwapsSpec).bare Rows.treeSwapsUptoRow=true:=by
 unfold joinedFacts
 repeat' (with_reducible refine M9 ?_ ?_)
 all_goals(first| (with_reducible exact KG)| (with_reducible exact JW)| (with_reducible exact Ko)| (with_reducible exact L3)| (as_aux_lemma=>kernel_rfl))
end Go.Proofs.YtgjdhajcnechdaaGreatDoor
