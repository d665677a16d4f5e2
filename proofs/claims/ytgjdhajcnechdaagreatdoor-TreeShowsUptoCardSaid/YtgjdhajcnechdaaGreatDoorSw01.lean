/-
  The closed facts of the row of TreeShows.
-/
import Derived.Test.YtgjdhajcnechdaaGreatDoorRows
import Derived.JoinedOf
import Derived.KernelRfl
set_option linter.all false
namespace Go.Proofs.YtgjdhajcnechdaaGreatDoor
open Go
theorem Mp{a b:Bool}(h1:a=true)(h2:b=true):(a&&b)=true:=by rw[h1,h2];rfl
theorem KV:(Rows.treeShowsUptoRow.inPlace==Tryz.prog.inPlace 5)=true:=by kernel_rfl
theorem K3:(Rows.treeShowsUptoRow.unfollowed==Tryz.prog.unfollowed 5)=true:=by kernel_rfl
theorem KI:(Rows.treeShowsUptoRow.recurses==Tryz.prog.recurses 5)=true:=by kernel_rfl
theorem M2:(Rows.treeShowsUptoRow.named==Tryz.prog.varsNamed 5)=true:=by kernel_rfl
set_option maxRecDepth 100000 in
set_option maxHeartbeats 4000000 in
theorem M1:joinedFacts Tryz.prog 5 Tryz.f5 (Rows.OpenSpec.upto Rows.treeShowsSpec).bare Rows.treeShowsUptoRow=true:=by
 unfold joinedFacts
 repeat' (with_reducible refine Mp ?_ ?_)
 all_goals(first| (with_reducible exact KV)| (with_reducible exact K3)| (with_reducible exact KI)| (with_reducible exact M2)| (as_aux_lemma=>kernel_rfl))
end Go.Proofs.YtgjdhajcnechdaaGreatDoor
