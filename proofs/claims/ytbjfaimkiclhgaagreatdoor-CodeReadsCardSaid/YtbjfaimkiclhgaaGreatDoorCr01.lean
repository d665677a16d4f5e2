/-
  The closed facts of the row of CodeReads.
-/
import Derived.Test.YtbjfaimkiclhgaaGreatDoorRows
import Derived.JoinedOf
import Derived.KernelRfl
set_option linter.all false
namespace Go.Proofs.YtbjfaimkiclhgaaGreatDoor
open Go
def RY{a b:Bool}(h1:a=true)(h2:b=true):(a&&b)=true:=by rw[h1,h2];rfl
def QI:(Rows.codeReadsRow.inPlace==Tryz.prog.inPlace 3)=true:=by kernel_rfl
def Pp:(Rows.codeReadsRow.unfollowed==Tryz.prog.unfollowed 3)=true:=by kernel_rfl
def PH:(Rows.codeReadsRow.recurses==Tryz.prog.recurses 3)=true:=by kernel_rfl
def T6:(Rows.codeReadsRow.named==Tryz.prog.varsNamed 3)=true:=by kernel_rfl
set_option maxRecDepth 100000 in
set_option maxHeartbeats 4000000 in
def T5:joinedFacts Tryz.prog 3 Tryz.f3 (OpenSpec.ofChange Rows.codeReadsSpec).bare Rows.codeReadsRow=true:=by
 unfold joinedFacts
 repeat' (with_reducible refine RY ?_ ?_)
 all_goals(first| (with_reducible exact QI)| (with_reducible exact Pp)| (with_reducible exact PH)| (with_reducible exact T6)| (as_aux_lemma=>kernel_rfl))
end Go.Proofs.YtbjfaimkiclhgaaGreatDoor
