/-
  The closed facts of the row of CodeSames.
-/
import Derived.Test.YtahbajmkhjngiaaGreatDoorRows
import Derived.JoinedOf
import Derived.KernelRfl
set_option linter.all false
namespace Go.Proofs.YtahbajmkhjngiaaGreatDoor
open Go
theorem C3{a b:Bool}(h1:a=true)(h2:b=true):(a&&b)=true:=by rw[h1,h2];rfl
theorem CN:(Rows.codeSamesUptoRow.inPlace==Tryz.prog.inPlace 3)=true:=by kernel_rfl
theorem Do:(Rows.codeSamesUptoRow.unfollowed==Tryz.prog.unfollowed 3)=true:=by kernel_rfl
theorem Df:(Rows.codeSamesUptoRow.recurses==Tryz.prog.recurses 3)=true:=by kernel_rfl
theorem CC:(Rows.codeSamesUptoRow.named==Tryz.prog.varsNamed 3)=true:=by kernel_rfl
set_option maxRecDepth 100000 in
set_option maxHeartbeats 4000000 in
theorem CB:joinedFacts Tryz.prog 3 Tryz.f3 (Rows.OpenSpec.upto Rows.codeSamesSpec).bare Rows.codeSamesUptoRow=true:=by
 unfold joinedFacts
 repeat' (with_reducible refine C3 ?_ ?_)
 all_goals(first| (with_reducible exact CN)| (with_reducible exact Do)| (with_reducible exact Df)| (with_reducible exact CC)| (as_aux_lemma=>kernel_rfl))
end Go.Proofs.YtahbajmkhjngiaaGreatDoor
