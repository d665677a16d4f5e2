/-
  How code lies in memory: units are a slice of three cells each, their rows slices of numbers, their instructions slices of four cells each.
-/
import Derived.Test.YtahbajmkhjngiaaGreatDoorSx04
import Derived.Deep.LoopGhost
set_option linter.all false
set_option maxRecDepth 100000
set_option maxHeartbeats 8000000
namespace Go.Proofs.YtahbajmkhjngiaaGreatDoor
open Go.Proofs.Tryz
open Go.RowKit
structure Cd where
 op:Int
 a:Int
 b:Int
 s:Bs
deriving DecidableEq
structure Un where
 name:Bs
 row:List Int
 code:List Cd
deriving DecidableEq
def cdC(c:Cd):List Value:=[.int .i64 c.op,.int .i64 c.a,.int .i64 c.b,str c.s]
def O:List Cd→List Value
 | []=>[]
 |c::r=>cdC c++O r
def V(l:List Int):List Value:=l.map fun i=> .int .i64 i
theorem BI{l:List Cd}{j:Nat}{c:Cd}(h:l[j]? =some c):(O l)[j*4]? =some (.int .i64 c.op)∧(O l)[j*4+1]? =some (.int .i64 c.a)∧(O l)[j*4+2]? =some (.int .i64 c.b)∧(O l)[j*4+3]? =some (str c.s):=by
 induction l generalizing j with
 |nil=>simp at h
 | cons d r ih=>
   cases j with
   | zero=>
     simp at h;subst h;simp[O,cdC]
   | succ j=>
     have:=ih (j:=j) (by simpa using h);have e:∀k,(O (d::r))[(j+1)*4+k]? =(O r)[j*4+k]?:=by
      intro k;rw[O,List.getElem?_append_right (by simp[cdC];omega)];congr 1;simp[cdC];omega
     have e0:=e 0;simp only[Nat.add_zero]at e0;rw[e0,e 1,e 2,e 3];exact this
def RepU(ok:Nat→Prop)(w:World):List Un→List Value→Prop
 | [],cs=>cs=[]
 |u::r,cs=>∃rv cv rest,cs=str u.name::rv::cv::rest∧Cells w rv 1 u.row.length (V u.row) ok∧Cells w cv 4 u.code.length (O u.code) ok∧RepU ok w r rest
def VU(ok:Nat→Prop)(w:World)(v:Value)(us:List Un):Prop:=∃cs,Cells w v 3 us.length cs ok∧RepU ok w us cs
theorem RepU.gb{w w1:World}{ok:Nat→Prop}{r:Option Nat}(g:w.grownBy w1 r)(hk:∀k,ok k→k<w.heap.size→some k≠r):∀{us:List Un}{cs:List Value},RepU ok w us cs→RepU ok w1 us cs:=by
 intro us;induction us with
 |nil=>intro cs h;exact h
 | cons u r ih=>
   rintro cs ⟨rv,cv,rest,e,h1,h2,h3⟩;exact⟨rv,cv,rest,e,h1.gb g hk,h2.gb g hk,ih h3⟩
theorem RepU.mono{w:World}{ok ok':Nat→Prop}(hk:∀k,ok k→k<w.heap.size→ok' k):∀{us:List Un}{cs:List Value},RepU ok w us cs→RepU ok' w us cs:=by
 intro us;induction us with
 |nil=>intro cs h;exact h
 | cons u r ih=>
   rintro cs ⟨rv,cv,rest,e,h1,h2,h3⟩;exact⟨rv,cv,rest,e,h1.mono hk,h2.mono hk,ih h3⟩
theorem RepU.app{w:World}{ok:Nat→Prop}:∀{us vs:List Un}{cs ds:List Value},RepU ok w us cs→RepU ok w vs ds→RepU ok w (us++vs) (cs++ds):=by
 intro us;induction us with
 |nil=>intro vs cs ds h k;subst h;exact k
 | cons u r ih=>
   rintro vs cs ds ⟨rv,cv,rest,rfl,h1,h2,h3⟩ k;exact⟨rv,cv,rest++ds,by simp,h1,h2,ih h3 k⟩
theorem RepU.one{w:World}{ok:Nat→Prop}{u:Un}{rv cv:Value}(h1:Cells w rv 1 u.row.length (V u.row) ok)(h2:Cells w cv 4 u.code.length (O u.code) ok):RepU ok w [u] [str u.name,rv,cv]:=
 ⟨rv,cv,[],rfl,h1,h2,rfl⟩
theorem RepU.get{w:World}{ok:Nat→Prop}:∀{us:List Un}{cs:List Value}{i:Nat}{u:Un},RepU ok w us cs→us[i]? =some u→
 ∃rv cv,cs[i*3]? =some (str u.name)∧cs[i*3+1]? =some rv∧cs[i*3+2]? =some cv∧Cells w rv 1 u.row.length (V u.row) ok∧Cells w cv 4 u.code.length (O u.code) ok:=by
 intro us;induction us with
 |nil=>intro cs i u h k;simp at k
 | cons x r ih=>
   rintro cs i u ⟨rv,cv,rest,rfl,h1,h2,h3⟩ k;cases i with
   | zero=>
     simp at k;subst k;exact⟨rv,cv,by simp,by simp,by simp,h1,h2⟩
   | succ i=>
     obtain⟨rv',cv',e0,e1,e2,h4,h5⟩:=ih h3 (i:=i) (by simpa using k);refine⟨rv',cv',?_,?_,?_,h4,h5⟩
     ·rw[show(i+1)*3=i*3+3 by omega];simpa using e0
     ·rw[show(i+1)*3+1=i*3+1+3 by omega];simpa using e1
     ·rw[show(i+1)*3+2=i*3+2+3 by omega];simpa using e2
theorem VU.gb{w w1:World}{v:Value}{ok:Nat→Prop}{r:Option Nat}{us:List Un}(h:VU ok w v us)(g:w.grownBy w1 r)(hk:∀k,ok k→k<w.heap.size→some k≠r):VU ok w1 v us:=by
 obtain⟨cs,h1,h2⟩:=h;exact⟨cs,h1.gb g hk,h2.gb g hk⟩
theorem VU.open{w:World}{v:Value}{ok:Nat→Prop}{us:List Un}(h:VU ok w v us):∃a cap,v= .slice a us.length cap∧us.length≤cap∧cap≤maxLen∧∀i u,us[i]? =some u→
 ∃g o ra rc ca cc,a=some ⟨g,o,none⟩∧ok g∧g<w.heap.size∧w.cell? ⟨g,o+i*3,none⟩=some (str u.name)∧w.cell? ⟨g,o+i*3+1,none⟩=some (.slice ra u.row.length rc)∧w.cell? ⟨g,o+i*3+2,none⟩=some (.slice ca u.code.length cc)∧
  Cells w (.slice ra u.row.length rc) 1 u.row.length (V u.row) ok∧Cells w (.slice ca u.code.length cc) 4 u.code.length (O u.code) ok:=by
 obtain⟨cs,⟨a,cap,e,h1,h2,h3,h4⟩,hr⟩:=h;refine⟨a,cap,e,h1,h2,fun i u hi=>?_⟩;obtain⟨rv,cv,e0,e1,e2,h5,h6⟩:=hr.get hi;obtain⟨g,o,ea,hok,c0⟩:=h4 _ _ e0;obtain⟨g',o',ea',_,c1⟩:=h4 _ _ e1;obtain⟨g'',o'',ea'',_,c2⟩:=h4 _ _ e2;have hg:some (⟨g',o',none⟩:Addr)=some ⟨g,o,none⟩:=ea'.symm.trans ea;have hg2:some (⟨g'',o'',none⟩:Addr)=some ⟨g,o,none⟩:=ea''.symm.trans ea;cases hg;cases hg2;obtain⟨ra,rc,rfl,_⟩:=id h5;obtain⟨ca,cc,rfl,_⟩:=id h6;exact⟨g,o,ra,rc,ca,cc,ea,hok,World.block_lt_of_cell? w _ c0,c0,by rw[Nat.add_assoc];exact c1,by rw[Nat.add_assoc];exact c2,h5,h6⟩
theorem Cells.int{w:World}{a:Option Addr}{n c:Nat}{ok:Nat→Prop}{l:List Int}(h:Cells w (.slice a n c) 1 l.length (V l) ok){j:Nat}{x:Int}(hj:l[j]? =some x):
 ∃g o,a=some ⟨g,o,none⟩∧ok g∧g<w.heap.size∧w.cell? ⟨g,o+j,none⟩=some (.int .i64 x):=by
 obtain⟨a',cap,e,h1,h2,h3,h4⟩:=h;cases e;obtain⟨g,o,ea,hok,c0⟩:=h4 j (.int .i64 x) (by simp[V,hj]);exact⟨g,o,ea,hok,World.block_lt_of_cell? w _ c0,c0⟩
theorem Cells.cd{w:World}{a:Option Addr}{n c:Nat}{ok:Nat→Prop}{l:List Cd}(h:Cells w (.slice a n c) 4 l.length (O l) ok){j:Nat}{x:Cd}(hj:l[j]? =some x):
 ∃g o,a=some ⟨g,o,none⟩∧ok g∧g<w.heap.size∧w.cell? ⟨g,o+j*4,none⟩=some (.int .i64 x.op)∧w.cell? ⟨g,o+j*4+1,none⟩=some (.int .i64 x.a)∧w.cell? ⟨g,o+j*4+2,none⟩=some (.int .i64 x.b)∧w.cell? ⟨g,o+j*4+3,none⟩=some (str x.s):=by
 obtain⟨a',cap,e,h1,h2,h3,h4⟩:=h;cases e;obtain⟨e0,e1,e2,e3⟩:=BI hj;obtain⟨g,o,ea,hok,c0⟩:=h4 _ _ e0;obtain⟨g1,o1,ea1,_,c1⟩:=h4 _ _ e1;obtain⟨g2,o2,ea2,_,c2⟩:=h4 _ _ e2;obtain⟨g3,o3,ea3,_,c3⟩:=h4 _ _ e3;have hg1:some (⟨g1,o1,none⟩:Addr)=some ⟨g,o,none⟩:=ea1.symm.trans ea;have hg2:some (⟨g2,o2,none⟩:Addr)=some ⟨g,o,none⟩:=ea2.symm.trans ea;have hg3:some (⟨g3,o3,none⟩:Addr)=some ⟨g,o,none⟩:=ea3.symm.trans ea;cases hg1;cases hg2;cases hg3;exact⟨g,o,ea,hok,World.block_lt_of_cell? w _ c0,c0,by rw[Nat.add_assoc];exact c1,by rw[Nat.add_assoc];exact c2,by rw[Nat.add_assoc];exact c3⟩
end Go.Proofs.YtahbajmkhjngiaaGreatDoor
