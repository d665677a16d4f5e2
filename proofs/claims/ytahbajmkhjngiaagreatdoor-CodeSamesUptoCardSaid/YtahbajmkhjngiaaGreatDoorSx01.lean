/-
  Plain laws of my own over the model's worlds: a world that has grown ('grownBy'), and what cells read behind it. No program.
-/
import Derived.WalkKit
import Derived.BigQuiet
import Derived.Deep.QuietTactic
import Derived.WalkSpells
import Derived.StillTailTactics
import Derived.WalkLawsBesides
import Derived.Lib.Hide
import Derived.Deep.RegionWith
import Derived.Deep.RegionHeld3
set_option linter.all false
set_option maxRecDepth 100000
set_option maxHeartbeats 8000000
namespace Go.Proofs.YtahbajmkhjngiaaGreatDoor
open Go.RowKit
theorem D{p:Prop}(h:p):RowKit.Hid p:=Lib.hid h
theorem I{p q:Prop}(h:p)(k:q):p∧q:=⟨h,k⟩
theorem N(w:World)(r:Option Nat):w.grownBy w r:=⟨rfl,rfl,rfl,Nat.le_refl _,fun _ _ _=>rfl⟩
theorem M{w w1 w2:World}{r:Option Nat}(h:w.grownBy w1 r)(k:w1.grownBy w2 r):w.grownBy w2 r:=
 ⟨k.os.trans h.os,k.tape.trans h.tape,k.output.trans h.output,Nat.le_trans h.size k.size,fun i hi hr=>(k.block i (Nat.lt_of_lt_of_le hi h.size) hr).trans (h.block i hi hr)⟩
theorem AQ{w w1:World}{r:Option Nat}(h:w.grownBy w1 none):w.grownBy w1 r:=
 ⟨h.os,h.tape,h.output,h.size,fun i hi _=>h.block i hi (by simp)⟩
theorem Y{w w1:World}{r:Option Nat}(h:w.grownBy w1 r)(o:Obj):w.grownBy (w1.alloc o) r:=
 M h (World.grownBy_alloc w1 o r)
theorem Ae{w w1:World}{r:Option Nat}(h:w.grownBy w1 r):w.grownBy w1.drew r:=⟨h.os,h.tape,h.output,h.size,h.block⟩
theorem Af{w w1:World}{r:Option Nat}(h:w.grownBy w1 r)(n:Nat):w.grownBy (w1.drewN n) r:=⟨h.os,h.tape,h.output,h.size,h.block⟩
theorem Am{w w1:World}{r:Option Nat}(h:w.grownBy w1 r)(a:Addr)(v:Value)(ha:some a.block=r∨w.heap.size≤a.block):w.grownBy (w1.setCell a v) r:=by
 refine⟨h.os,h.tape,h.output,?_,fun i hi hr=>?_⟩
 ·simp[World.setCell];exact h.size
 ·have hne : i ≠ a.block := by
   rintro rfl;rcases ha with ha|ha
   ·exact hr ha
   ·omega
  rw[Below.heap_setCell _ _ _ _ hne];exact h.block i hi hr
theorem AO{w w1 w2:World}{r:Option Nat}(h:w.grownBy w1 r)(k:w1.grownBy w2 none):w.grownBy w2 r:=M h (AQ k)
theorem AD{w w1 w2:World}{r:Option Nat}{b:Nat}(h:w.grownBy w1 r)(k:w1.grownBy w2 (some b))(hb:some b=r∨w.heap.size≤b):w.grownBy w2 r:=
 ⟨k.os.trans h.os,k.tape.trans h.tape,k.output.trans h.output,Nat.le_trans h.size k.size,fun i hi hr=>(k.block i (Nat.lt_of_lt_of_le hi h.size) (by
  intro e
  rcases hb with hb|hb
  ·exact hr (e.trans hb)
  ·cases e;omega)).trans (h.block i hi hr)⟩
theorem Aq{w w1:World}{r:Option Nat}(h:w.grownBy w1 r){k i:Nat}{v:Value}(c:w.cell? ⟨k,i,none⟩=some v)(hk:some k≠r):w1.cell? ⟨k,i,none⟩=some v:=h.cell c hk
theorem J{w w1:World}(h:w.grownBy w1 none){k i:Nat}{v:Value}(c:w.cell? ⟨k,i,none⟩=some v):w1.cell? ⟨k,i,none⟩=some v:=h.cell c (by simp)
theorem BU{w w1:World}{r:Option Nat}(h:w.grownBy w1 r){k:Nat}{o:Obj}(c:w.heap[k]? =some o)(hk:some k≠r):w1.heap[k]? =some o:=
 (h.block k (Array.getElem?_eq_some_iff.1 c).1 hk).trans c
theorem BT{w w1:World}(h:w.grownBy w1 none):Below w.heap.size w w1:=⟨h.os,h.tape,h.output,h.size,fun k hk=>h.block k hk (by simp)⟩
def Blk(w:World)(k:Nat)(cs:List Value)(t:TypeId):Prop:=w.heap[k]? =some (.cells cs.toArray t (0,0))
theorem Blk.lt{w:World}{k:Nat}{cs:List Value}{t:TypeId}(h:Blk w k cs t):k<w.heap.size:=(Array.getElem?_eq_some_iff.1 h).1
theorem Blk.cell{w:World}{k:Nat}{cs:List Value}{t:TypeId}(h:Blk w k cs t)(i:Nat):w.cell? ⟨k,i,none⟩=cs[i]?:=by
 simp only[World.cell?,show w.heap[k]? =some (.cells cs.toArray t (0,0))from h];simp
theorem Blk.cell'{w:World}{k:Nat}{cs:List Value}{t:TypeId}(h:Blk w k cs t)(i:Nat){v:Value}(e:cs[i]? =some v):w.cell? ⟨k,i,none⟩=some v:=(h.cell i).trans e
theorem Blk.frozen{w:World}{k:Nat}{cs:List Value}{t:TypeId}(h:Blk w k cs t)(i:Nat):w.frozen? ⟨k,i,none⟩=false:=by
 simp only[World.frozen?,show w.heap[k]? =some (.cells cs.toArray t (0,0))from h];simp
theorem Blk.alloc{w:World}{k:Nat}{cs:List Value}{t:TypeId}(h:Blk w k cs t)(o:Obj):Blk (w.alloc o) k cs t:=
 (Below.heap_alloc w o k h.lt).trans h
theorem Blk.new(w:World)(cs:List Value)(t:TypeId):Blk (w.alloc (.cells cs.toArray t (0,0))) w.heap.size cs t:=heap_alloc_new w _
theorem Blk.drew{w:World}{k:Nat}{cs:List Value}{t:TypeId}(h:Blk w k cs t):Blk w.drew k cs t:=h
theorem Blk.drewN{w:World}{k:Nat}{cs:List Value}{t:TypeId}(h:Blk w k cs t)(n:Nat):Blk (w.drewN n) k cs t:=h
theorem Blk.set{w:World}{k:Nat}{cs:List Value}{t:TypeId}(h:Blk w k cs t)(i:Nat)(v:Value):Blk (w.setCell ⟨k,i,none⟩ v) k (cs.set i v) t:=by
 have h':w.heap[k]? =some (.cells cs.toArray t (0,0)):=h;simp[Blk,World.setCell,Array.getElem?_modify,h']
theorem Blk.set_other{w:World}{k:Nat}{cs:List Value}{t:TypeId}(h:Blk w k cs t)(a:Addr)(v:Value)(hne:k≠a.block):Blk (w.setCell a v) k cs t:=
 (Below.heap_setCell w a v k hne).trans h
theorem Blk.gb{w w1:World}{r:Option Nat}{k:Nat}{cs:List Value}{t:TypeId}(h:Blk w k cs t)(g:w.grownBy w1 r)(hk:some k≠r):Blk w1 k cs t:=BU g h hk
theorem Blk.of_eq{w:World}{k k':Nat}{cs cs':List Value}{t:TypeId}(h:Blk w k cs t)(e:k=k')(e':cs=cs'):Blk w k' cs' t:=e ▸ e' ▸ h
end Go.Proofs.YtahbajmkhjngiaaGreatDoor
