/-
  append onto a slice that the call has made, with one thing more than the kit's law says: the row stays, or is new. Bytes of a text in a block of their own, that a loop may write.
-/
import Derived.Test.YtahbajmkhjngiaaGreatDoorSx04
import Derived.Test.YtahbajmkhjngiaaGreatDoorSx02
import Derived.Laws.IdiomStrings
import Derived.Laws.AppendOwn
import Derived.Laws.OwnMore
import Derived.Deep.AppendLies
set_option linter.all false
set_option maxRecDepth 100000
set_option maxHeartbeats 8000000
namespace Go.Proofs.YtahbajmkhjngiaaGreatDoor
open Go.Proofs.Tryz
open Go.RowKit
theorem Az(w:World)(cs:List Value)(t:TypeId):∀j u,cs[j]? =some u→(w.alloc (.cells cs.toArray t (0,0))).cell? ((⟨w.heap.size,0,none⟩:Addr).add j)=some u:=by
 intro j u h;have e:(⟨w.heap.size,0,none⟩:Addr).add j=⟨w.heap.size,j,none⟩:=by unfold Addr.add;split<;>simp_all
 rw[e];exact(Blk.new w cs t).cell' j h
theorem B7:(Tryz.prog.info? 9).map (fun i=>(i.zero,i.size,i.bytes))=some (some (str []),1,16):=by kernel_rfl
theorem B6:(Tryz.prog.info? 3).map (fun i=>(i.zero,i.size,i.bytes))=some (some (.int .i64 0),1,8):=by kernel_rfl
structure BytR(s:Bs)(H:Nat)(wr:World):Prop where
 cell:∀j,j<s.length→wr.cell? ⟨H,j,none⟩=some (.int .u8 (bAt s j).toNat)
 fr:∀j,j<s.length→wr.frozen? ⟨H,j,none⟩=false
 lt:H<wr.heap.size
theorem BytR.new(w:World)(s:Bs)(cap:Nat):BytR s w.heap.size (w.drew.alloc (.cells (bytesRow ⟨s.toArray⟩ cap) 5 ((bytesRow ⟨s.toArray⟩ cap).size,(bytesRow ⟨s.toArray⟩ cap).size+1))):=by
 refine⟨fun j hj=>?_,fun j hj=>?_,by simp⟩
 ·show(w.drew.alloc _).cell? ⟨w.drew.heap.size,j,none⟩=_;rw[World.cell?_alloc_mark,bytesRow_at _ _ _ (by simpa using hj)];simp[Bc hj]
 ·show(w.drew.alloc _).frozen? ⟨w.drew.heap.size,j,none⟩=_;rw[World.frozen?_alloc_mark];have:s.length≤(bytesRow ⟨s.toArray⟩ cap).size:=by simp[bytesRow]
  simp;omega
theorem Ad{w wr w1:World}{r o:Option Nat}(h:w.grownBy wr r)(g:wr.grownBy w1 o)(ho:∀k,o=some k→w.heap.size≤k):w.grownBy w1 r:=by
 cases o with
 |none=>exact AO h g
 |some k=>exact AD h g (.inr (ho k rfl))
theorem At(w:World)(B:Nat)(t:TypeId)(k:Nat):w.ownsRow B t k (.slice none 0 0) 0 []:=⟨by simp,.inl ⟨rfl,rfl⟩⟩
end Go.Proofs.YtahbajmkhjngiaaGreatDoor
