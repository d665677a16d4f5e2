/-
  Code: Copy, the program's.
-/
import Derived.Test.YtahbajmkhjngiaaGreatDoorSx26
import Derived.Deep.RegionHeld3
set_option linter.all false
set_option maxRecDepth 100000
set_option maxHeartbeats 8000000
namespace Go.Proofs.YtahbajmkhjngiaaGreatDoor
open Go.Proofs.Tryz
open Go.RowKit
theorem AU{w0 W W1:World}{H:Nat}{x y z:Value}(h:(W.cell? ⟨H,0,none⟩=some x∧W.cell? ⟨H,1,none⟩=some y∧W.cell? ⟨H,2,none⟩=some z)∧w0.grownBy W none){r:Option Nat}(g:W.grownBy W1 r)(hr:some H≠r)(ho:∀k,r=some k→w0.heap.size≤k):
 (W1.cell? ⟨H,0,none⟩=some x∧W1.cell? ⟨H,1,none⟩=some y∧W1.cell? ⟨H,2,none⟩=some z)∧w0.grownBy W1 none:=
 ⟨⟨Aq g h.1.1 hr,Aq g h.1.2.1 hr,Aq g h.1.2.2 hr⟩,Ad h.2 g ho⟩
theorem CQ{w0 W:World}{A:Prop}{v:Value}{l:List Int}{ok:Nat→Prop}(hS:A∧w0.grownBy W none)(h:Cells w0 v 1 l.length (V l) ok)(hl:l.length≤100000000):
 Calls Tryz.prog 19 #[v] W fun e w'=>∃a c,e= .returned (.slice a l.length c)∧w'.ownsRow W.heap.size 3 1 (.slice a l.length c) l.length (V l)∧W.grownBy w' none:=by
 refine(Dc (h.gb hS.2 (by simp)) hl).mono ?_;rintro e w' ⟨r,rfl,ho,g⟩;obtain⟨a,c,rfl⟩:=AF ho;exact⟨a,c,rfl,ho,g⟩
theorem Dg{w0 W:World}{A:Prop}{v:Value}{l:List Cd}{ok:Nat→Prop}(hS:A∧w0.grownBy W none)(h:Cells w0 v 4 l.length (O l) ok)(hl:l.length≤100000000):
 Calls Tryz.prog 20 #[v] W fun e w'=>∃a c,e= .returned (.slice a l.length c)∧w'.ownsRow W.heap.size 35 4 (.slice a l.length c) l.length (O l)∧W.grownBy w' none:=by
 refine(CX (h.gb hS.2 (by simp)) hl).mono ?_;rintro e w' ⟨r,rfl,ho,g⟩;obtain⟨a,c,rfl⟩:=AF ho;exact⟨a,c,rfl,ho,g⟩
theorem Dj{ops:Array Oper}{o:Oper}{a:Act}{K:Act→World→Prop}{Q:Exit→Act→World→Prop}{E:Prop}{w0 wr W0:World}{A:Prop}{v x1 x2:Value}{nm:Bs}{k:Nat}{cs:List Value}(hgd:o.guard=none)(s x:Operand)
 (ho:o.op= .call {callee:= .builtin .append,args:=#[s,x],argTypes:=#[22,22]})
 (hS:A∧w0.grownBy (W0.alloc (.cells #[str nm,x1,x2] 33 (0,0))) none) (hO:wr.ownsRow w0.heap.size 33 3 v k cs) (gc:wr.grownBy W0 none)
 (hs:a.eval s=v) (hx:a.eval x= .slice (some ⟨W0.heap.size,0,none⟩) 1 1) (hone:x1.oneCell'=true∧x2.oneCell'=true) (hk:k≤100000000)
 (h:∀g cap w',w'.ownsRow w0.heap.size 33 3 (.slice (some ⟨g,0,none⟩) (k+1) cap) (k+1) (cs++[str nm,x1,x2])→(W0.alloc (.cells #[str nm,x1,x2] 33 (0,0))).grownBy w' v.ownBlock→(v.ownBlock=some g∨g=W0.heap.size+1)→K (a.put o.dst (.slice (some ⟨g,0,none⟩) (k+1) cap)) w'):
 if Region.wanted o (yielded ops a.tmps)=true then Oper.wp Tryz.prog o a (W0.alloc (.cells #[str nm,x1,x2] 33 (0,0))) K Q else E:=by
 obtain⟨n0,hn0,hv0,hv1,hv2⟩:=info_parts AS;refine step_append_lies _ hgd s x 22 ho w0.heap.size 33 n0 (.agg #[str [],.slice none 0 0,.slice none 0 0]) 3 64 underlying22 hn0 hv0 hv1 hv2 rfl (by decide) v k cs hs (Ap hO (Y gc _) (by simp)) ⟨W0.heap.size,0,none⟩ 1 1 [str nm,x1,x2] hx rfl (Az W0 [str nm,x1,x2] 33) ?_ (by decide) (by unfold maxLen;omega) (by omega) hS.2.size _ rfl ?_
 ·intro u hu;simp only[List.mem_cons,List.not_mem_nil,or_false]at hu;rcases hu with rfl|rfl|rfl
  ·rfl
  ·exact hone.1
  ·exact hone.2
 ·intro g cap w' h1 h2 h3 _;exact h g cap w' h1 h2 (by simpa using h3)
end Go.Proofs.YtahbajmkhjngiaaGreatDoor
