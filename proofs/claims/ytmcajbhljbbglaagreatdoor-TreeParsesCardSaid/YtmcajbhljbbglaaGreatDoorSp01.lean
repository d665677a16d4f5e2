/-
  The closed facts of the row of TreeParses.
-/
import Derived.Test.YtmcajbhljbbglaaGreatDoorRows
import Derived.JoinedOf
import Derived.KernelRfl
set_option linter.all false
namespace Go.Proofs.YtmcajbhljbbglaaGreatDoor
open Go
theorem pV{a b:Bool}(h1:a=true)(h2:b=true):(a&&b)=true:=by rw[h1,h2];rfl
theorem kN:(Rows.treeParsesRow.inPlace==Tryz.prog.inPlace 4)=true:=by kernel_rfl
theorem jU:(Rows.treeParsesRow.unfollowed==Tryz.prog.unfollowed 4)=true:=by kernel_rfl
theorem jY:(Rows.treeParsesRow.recurses==Tryz.prog.recurses 4)=true:=by kernel_rfl
theorem lT:(Rows.treeParsesRow.named==Tryz.prog.varsNamed 4)=true:=by kernel_rfl
set_option maxRecDepth 100000 in
set_option maxHeartbeats 4000000 in
theorem lS:joinedFacts Tryz.prog 4 Tryz.f4 Rows.treeParsesSpec Rows.treeParsesRow=true:=by
 unfold joinedFacts
 repeat' (with_reducible refine pV ?_ ?_)
 all_goals(first| (with_reducible exact kN)| (with_reducible exact jU)| (with_reducible exact jY)| (with_reducible exact lT)| (as_aux_lemma=>kernel_rfl))
end Go.Proofs.YtmcajbhljbbglaaGreatDoor
