/-
  Dates: Val of digits. The table that Itoa reads; Itoa.
-/
import Derived.Test.YtahbajmkhjngiaaGreatDoorSx12
import Derived.Test.YtahbajmkhjngiaaGreatDoorSx02
import Derived.Test.YtahbajmkhjngiaaGreatDoorSx04
import Derived.Test.YtahbajmkhjngiaaGreatDoorPlain
import Derived.Lib.ItoaMem
set_option linter.all false
set_option maxRecDepth 100000
set_option maxHeartbeats 8000000
namespace Go.Proofs.YtahbajmkhjngiaaGreatDoor
open Go.Proofs.Tryz
open Go.RowKit
theorem Bu(s:Bs)(k:Nat)(h:k<(⟨s.toArray⟩:ByteArray).size)(h2:k<s.length):(⟨s.toArray⟩:ByteArray)[k]'h=s[k]:=rfl
open Go.Lib Go.Sort
def Pow (w : World) : Prop := Lib.TabIs Tryz.prog w "internal/strconv.uint64pow10" .u64 Lib.pow10Tab
theorem Bx : Tryz.prog.globalNamed "internal/strconv.uint64pow10" = some 1 := by kernel_rfl
theorem Pow.gb{w w1:World}(h:Pow w)(g:w.grownBy w1 none):Pow w1:=by
 unfold Pow Lib.TabIs World.var? at*;simp only[Bx,Option.bind_some]at h ⊢;have hlt:1<w.heap.size:=by
  rcases Nat.lt_or_ge 1 w.heap.size with h' |h'
  ·exact h'
  ·rw[Array.getElem?_eq_none h']at h;simp at h
 rw[g.block _ hlt (by simp)];exact h
theorem Ch(w:World)(k:Nat)(os:Array Obj):w.grownBy (grow (w.drewN k) os) none:=by
 refine⟨rfl,rfl,rfl,by simp,fun i hi _=>?_⟩;rw[heap_grow_old _ _ (by simpa using hi)];rfl
theorem AV{w:World}(hp:Pow w)(n:Int)(h0: -9223372036854775808≤n)(h1:n≤9223372036854775807):
 Calls Tryz.prog 37 #[.int .i64 n] w fun e w'=>e= .returned (str (Lib.itoa n))∧w.grownBy w' none:=by
 refine(strconv_Itoa n h0 h1 w hp).mono ?_;rintro e w' ⟨rfl,k,os,rfl⟩;exact⟨rfl,Ch _ _ _⟩
end Go.Proofs.YtahbajmkhjngiaaGreatDoor
