/-
  Code: its lines, the program's.
-/
import Derived.Test.YtahbajmkhjngiaaGreatDoorSx20
import Derived.Lib.ItoaLen
set_option linter.all false
set_option maxRecDepth 100000
set_option maxHeartbeats 8000000
namespace Go.Proofs.YtahbajmkhjngiaaGreatDoor
open Go.Proofs.Tryz
open Go.RowKit
def A0(x:Int):Prop:= -9223372036854775808≤x∧x≤9223372036854775807
def AI(c:Cd):Prop:=A0 c.op∧A0 c.a∧A0 c.b
def A9(u:Un):Prop:=(∀x∈u.row,A0 x)∧∀c∈u.code,AI c
def A3(us:List Un):Prop:=∀u∈us,A9 u
theorem AA{α:Type}{l:List α}{k:Nat}{x:α}(h:l[k]? =some x):x∈l:=List.mem_of_getElem? h
theorem As{x:Int}(h:A0 x):(Lib.itoa x).length≤21:=Lib.itoa_length_le x h.1 h.2
theorem Bh{α:Type}{f:α→Bs}{g:α→Nat}{l:List α}(hf:∀x∈l,(f x).length≤30*g x)(k:Nat):(S f l k).length≤30*pfx g l k:=by
 induction k with
 |zero=>simp[S,pfx]
 | succ k ih=>
   rw[S,List.length_append,pfx,Nat.mul_add];cases h:l[k]? with
   |none=>simpa using ih
   |some x=>have:=hf x (AA h);simp only;omega
theorem Bp{c:Cd}(h:AI c):(Ao c).length≤30*wtC c:=by
 have h1:=As h.1;have h2:=As h.2.1;have h3:=As h.2.2;have h4:=AE c.s;simp only[Ao,wtC,List.length_append,List.length_cons,List.length_nil];omega
theorem A4{u:Un}(h:A9 u)(j:Nat)(hj:j≤u.row.length):(S Ab u.row j).length≤30*u.row.length:=by
 have h1:=Bh (f:=Ab) (g:=fun _=>1) (l:=u.row) (fun x hx=>by have:=As (h.1 x hx);simp[Ab];omega) j;have h2:pfx (fun _:Int=>1) u.row j≤pfx (fun _=>1) u.row u.row.length:=An _ _ hj;have h3:∀k,k≤u.row.length→pfx (fun _:Int=>1) u.row k=k:=by
  intro k;induction k with
  |zero=>intro _;rfl
  |succ k ih=>intro hk;rw[Aj (X (show k<u.row.length by omega)),ih (by omega)]
 rw[h3 _ (Nat.le_refl _)]at h2;omega
theorem Bq{u:Un}(h:A9 u)(j:Nat)(hj:j≤u.code.length):(S Ao u.code j).length≤30*pfx wtC u.code u.code.length:=by
 have h1:=Bh (f:=Ao) (g:=wtC) (l:=u.code) (fun x hx=>Bp (h.2 x hx)) j;have h2:=An wtC u.code hj;omega
theorem Aw(u:Un):(Ai u).length≤3*u.name.length+7:=by
 have:=AE u.name;simp only[Ai,List.length_append,List.length_cons,List.length_nil];omega
theorem C2{u:Un}(h:A9 u):(Ac u).length≤30*(wtU u+1):=by
 have h1:=A4 h u.row.length (Nat.le_refl _);have h2:=Bq h u.code.length (Nat.le_refl _);have h3:=Aw u;have h4:wtU u=u.name.length+u.row.length+pfx wtC u.code u.code.length:=rfl;simp only[Ac,List.length_append,List.length_cons,List.length_nil];omega
theorem BB{α:Type}(f:α→Nat)(l:List α)(k:Nat)(hk:k≤l.length):pfx (fun x=>f x+1) l k=pfx f l k+k:=by
 induction k with
 |zero=>rfl
 |succ k ih=>rw[Aj (X hk),Aj (X hk),ih (by omega)];omega
theorem AW{us:List Un}(h:A3 us)(k:Nat)(hk:k≤us.length):(S Ac us k).length≤30*Z us:=by
 have h1:=Bh (f:=Ac) (g:=fun u=>wtU u+1) (l:=us) (fun u hu=>C2 (h u hu)) k;have h2:=An (fun u=>wtU u+1) us hk;rw[BB wtU us us.length (Nat.le_refl _)]at h2;unfold Z;omega
theorem Bb{us:List Un}{k:Nat}{u:Un}(h:us[k]? =some u):wtU u≤Z us:=by
 have hk:=(List.getElem?_eq_some_iff.1 h).1;have h1:=An wtU us (show k+1≤us.length from hk);rw[Aj h]at h1;unfold Z;omega
theorem Bz{u:Un}{k:Nat}{c:Cd}(h:u.code[k]? =some c):wtC c≤wtU u:=by
 have hk:=(List.getElem?_eq_some_iff.1 h).1;have h1:=An wtC u.code (show k+1≤u.code.length from hk);rw[Aj h]at h1;unfold wtU;omega
section
variable {w w0 w1:World}{b:Nat}{p v:Value}{l:Bs}
theorem CD(h:Bld w b p v l):
 Calls Tryz.prog 39 #[.pointer (some ⟨b,0,none⟩)] w fun e w'=>e= .returned (str l)∧∀w0:World,w0.grownBy w none→w0.heap.size≤b→w0.grownBy w' none:=by
 have hb:Lib.IsBuilder 61 5 b b (Lib.byteCells l) w:=by
  have hr:w.ownsRow b 5 1 v (Lib.byteCells l).length (Lib.byteCells l):=by
   have e:Lib.byteCells l=U l:=rfl;rw[e,BH];obtain⟨h1,h2⟩:=h.row;refine⟨h1,?_⟩;rcases h2 with h2| ⟨g,cap,cur,e1,hbg,hrest⟩
   ·exact .inl h2
   ·exact .inr ⟨g,cap,cur,e1,by omega,hrest⟩
  have hne:v.ownBlock≠some b:=fun e=>by have:=(h.own b e).1;omega
  rcases h.par with e|e
  ·exact .inl ⟨Nat.le_refl _,v,by rw[←e];exact h.blk,hr,hne⟩
  ·exact .inr ⟨Nat.le_refl _,v,by rw[←e];exact h.blk,hr,hne⟩
 refine(Builder_String_any b b l w hb (Nat.le_of_lt h.lt)).mono ?_;rintro e w' ⟨rfl,k⟩;exact⟨rfl,fun w0 g hb=>⟨k.os.trans g.os,k.tape.trans g.tape,k.output.trans g.output,Nat.le_trans g.size k.size,fun i hi hn=>(k.block i (by omega)).trans (g.block i hi hn)⟩⟩
theorem Bld.ne_blk(h:Bld w b p v l){H:Nat}{cs:List Value}{t:TypeId}(hH:Blk w H cs t)(ht:t≠5):v.ownBlock≠some H:=by
 intro e;rcases h.row.2 with⟨rfl,_⟩| ⟨g,cap,cur,rfl,_,hg,_⟩
 ·simp[Value.ownBlock]at e
 ·simp only[Value.ownBlock,Option.some.injEq]at e;subst e;have hH':w.heap[g]? =some (.cells cs.toArray t (0,0)):=hH;rw[hg]at hH';simp only[Option.some.injEq,Obj.cells.injEq]at hH';exact ht hH'.2.1.symm
theorem Bld.stepB(h:Bld w b p v l)(f:FR w w1 b v){H:Nat}{cs:List Value}{t:TypeId}(hX:Blk w H cs t)(ht:t≠5)(hb:H≠b)(g:w0.grownBy w none)(h0:w0.heap.size≤b):Blk w1 H cs t∧w0.grownBy w1 none:=
 ⟨(f.block H hX.lt hb (h.ne_blk hX ht)).trans hX,f.below (fun k e=>(h.own k e).1) h0 rfl g⟩
end
end Go.Proofs.YtahbajmkhjngiaaGreatDoor
