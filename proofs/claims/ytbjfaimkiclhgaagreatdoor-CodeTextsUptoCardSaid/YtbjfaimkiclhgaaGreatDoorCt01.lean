/-
  The closed facts of the row of CodeTexts.
-/
import Derived.Test.YtbjfaimkiclhgaaGreatDoorRows
import Derived.JoinedOf
import Derived.KernelRfl
set_option linter.all false
namespace Go.Proofs.YtbjfaimkiclhgaaGreatDoor
open Go
def Sl{a b:Bool}(h1:a=true)(h2:b=true):(a&&b)=true:=by rw[h1,h2];rfl
def Qr:(Rows.codeTextsUptoRow.inPlace==Tryz.prog.inPlace 4)=true:=by kernel_rfl
def ON:(Rows.codeTextsUptoRow.unfollowed==Tryz.prog.unfollowed 4)=true:=by kernel_rfl
def PN:(Rows.codeTextsUptoRow.recurses==Tryz.prog.recurses 4)=true:=by kernel_rfl
def Tu:(Rows.codeTextsUptoRow.named==Tryz.prog.varsNamed 4)=true:=by kernel_rfl
set_option maxRecDepth 100000 in
set_option maxHeartbeats 4000000 in
def Tt:joinedFacts Tryz.prog 4 Tryz.f4 (Rows.OpenSpec.upto Rows.codeTextsSpec).bare Rows.codeTextsUptoRow=true:=by
 unfold joinedFacts
 repeat' (with_reducible refine Sl ?_ ?_)
 all_goals(first| (with_reducible exact Qr)| (with_reducible exact ON)| (with_reducible exact PN)| (with_reducible exact Tu)| (as_aux_lemma=>kernel_rfl))
end Go.Proofs.YtbjfaimkiclhgaaGreatDoor
