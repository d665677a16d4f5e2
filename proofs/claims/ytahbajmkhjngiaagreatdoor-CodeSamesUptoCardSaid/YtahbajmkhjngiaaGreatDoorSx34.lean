/-
  Code: what need stand of a copy while its numbers are changed.
-/
import Derived.Test.YtahbajmkhjngiaaGreatDoorSx32
set_option linter.all false
set_option maxRecDepth 100000
set_option maxHeartbeats 8000000
namespace Go.Proofs.YtahbajmkhjngiaaGreatDoor
open Go.Proofs.Tryz
open Go.RowKit
def NumRow(t:TypeId)(p:Nat→Nat)(W:World)(B B2:Nat)(rv:Value)(n:Nat):Prop:=
 (rv= .slice none 0 0∧n=0)∨∃g cap cs,rv= .slice (some ⟨g,0,none⟩) n cap∧B≤g∧g<B2∧Blk W g cs t∧n≤cap∧cap≤maxLen∧∀j,j<n→∃x:Int,cs[p j]? =some (.int .i64 x)
def CM(W:World)(B B2:Nat)(v:Value)(us:List Un):Prop:=
 (v= .slice none 0 0∧us=[])∨∃G cap,v= .slice (some ⟨G,0,none⟩) us.length cap∧us.length≤cap∧cap≤maxLen∧(∃cs,Blk W G cs 33)∧∀i u,us[i]? =some u→
  ∃rv cv,W.cell? ⟨G,i*3+1,none⟩=some rv∧W.cell? ⟨G,i*3+2,none⟩=some cv∧NumRow 3 (fun j=>j) W B B2 rv u.row.length∧NumRow 35 (fun j=>j*4+1) W B B2 cv u.code.length
section
variable {t:TypeId}{p:Nat→Nat}{W W1:World}{B B2:Nat}{rv v:Value}{n:Nat}{us:List Un}
theorem NumRow.gb(h:NumRow t p W B B2 rv n)(g:W.grownBy W1 none):NumRow t p W1 B B2 rv n:=by
 rcases h with h| ⟨q,cap,cs,e,h1,h2,h3,h4,h5,h6⟩
 ·exact .inl h
 ·exact .inr ⟨q,cap,cs,e,h1,h2,h3.gb g (by simp),h4,h5,h6⟩
theorem NumRow.set(h:NumRow t p W B B2 rv n)(q i:Nat)(y:Int):NumRow t p (W.setCell ⟨q,i,none⟩ (.int .i64 y)) B B2 rv n:=by
 rcases h with h| ⟨g,cap,cs,e,h1,h2,h3,h4,h5,h6⟩
 ·exact .inl h
 ·by_cases hq:g=q
  ·subst hq;refine .inr ⟨g,cap,cs.set i (.int .i64 y),e,h1,h2,h3.set i _,h4,h5,fun j hj=>?_⟩;obtain⟨x,hx⟩:=h6 j hj;rw[List.getElem?_set];split
   ·have hlt:=(List.getElem?_eq_some_iff.1 hx).1;rename_i hi;rw[if_pos (by omega)];exact⟨y,rfl⟩
   ·exact⟨x,hx⟩
  ·exact .inr ⟨g,cap,cs,e,h1,h2,h3.set_other _ _ hq,h4,h5,h6⟩
theorem CM.gb(h:CM W B B2 v us)(g:W.grownBy W1 none):CM W1 B B2 v us:=by
 rcases h with h| ⟨G,cap,e,h1,h2,⟨cs,h3⟩,h4⟩
 ·exact .inl h
 ·refine .inr ⟨G,cap,e,h1,h2,⟨cs,h3.gb g (by simp)⟩,fun i u hi=>?_⟩;obtain⟨rv,cv,c1,c2,h5,h6⟩:=h4 i u hi;exact⟨rv,cv,J g c1,J g c2,h5.gb g,h6.gb g⟩
theorem CM.set(h:CM W B B2 v us){q:Nat}{cs:List Value}{t:TypeId}(hq:Blk W q cs t)(ht:t≠33)(i:Nat)(y:Int):CM (W.setCell ⟨q,i,none⟩ (.int .i64 y)) B B2 v us:=by
 rcases h with h| ⟨G,cap,e,h1,h2,⟨cs2,h3⟩,h4⟩
 ·exact .inl h
 ·have hne : G ≠ q := by
   rintro rfl;have e1:W.heap[G]? =some (.cells cs.toArray t (0,0)):=hq;have e2:W.heap[G]? =some (.cells cs2.toArray 33 (0,0)):=h3;rw[e1]at e2;simp only[Option.some.injEq,Obj.cells.injEq]at e2;exact ht e2.2.1
  refine .inr ⟨G,cap,e,h1,h2,⟨cs2,h3.set_other _ _ hne⟩,fun j u hj=>?_⟩;obtain⟨rv,cv,c1,c2,h5,h6⟩:=h4 j u hj;have g:W.grownBy (W.setCell ⟨q,i,none⟩ (.int .i64 y)) (some q):=Am (N _ _) _ _ (.inl rfl);exact⟨rv,cv,Aq g c1 (by simpa using hne),Aq g c2 (by simpa using hne),h5.set q i y,h6.set q i y⟩
end
theorem BG{w:World}{B B2 k n:Nat}{t:TypeId}{rv:Value}{xs:List Value}{p:Nat→Nat}(h:w.ownsRow B t k rv n xs)(hB:w.heap.size≤B2)(hp:∀j,j<n→∃x:Int,xs[p j]? =some (.int .i64 x)):NumRow t p w B B2 rv n:=by
 rcases h.2 with h2| ⟨g,cap,cur,e,hb,hg,hnc,hcm,hcs,htk⟩
 ·exact .inl h2
 ·refine .inr ⟨g,cap,cur.toList,e,hb,Nat.lt_of_lt_of_le (Array.getElem?_eq_some_iff.1 hg).1 hB,by simpa[Blk]using hg,hnc,hcm,fun j hj=>?_⟩;obtain⟨x,hx⟩:=hp j hj;refine⟨x,?_⟩;rw[←htk,List.getElem?_take]at hx;split at hx
  ·exact hx
  ·cases hx
theorem RepO.get{B:Nat}{w:World}:∀{us:List Un}{cs:List Value}{i:Nat}{u:Un},RepO B w us cs→us[i]? =some u→
 ∃rv cv,cs[i*3+1]? =some rv∧cs[i*3+2]? =some cv∧w.ownsRow B 3 1 rv u.row.length (V u.row)∧w.ownsRow B 35 4 cv u.code.length (O u.code):=by
 intro us;induction us with
 |nil=>intro cs i u h k;simp at k
 | cons x r ih=>
   rintro cs i u ⟨rv,cv,rest,rfl,h1,h2,h3⟩ k;cases i with
   | zero=>
     simp at k;subst k;exact⟨rv,cv,by simp,by simp,h1,h2⟩
   | succ i=>
     obtain⟨rv',cv',e1,e2,h4,h5⟩:=ih h3 (i:=i) (by simpa using k);refine⟨rv',cv',?_,?_,h4,h5⟩
     ·rw[show(i+1)*3+1=i*3+1+3 by omega];simpa using e1
     ·rw[show(i+1)*3+2=i*3+2+3 by omega];simpa using e2
theorem OwnU2.cm{w:World}{B B2:Nat}{v:Value}{us:List Un}(h:OwnU2 w B v us)(hB:w.heap.size≤B2):CM w B B2 v us:=by
 obtain⟨cs,h1,h2⟩:=h;rcases h1.2 with⟨rfl,hn⟩| ⟨g,cap,cur,rfl,hb,hg,hnc,hcm,hcs,htk⟩
 ·exact .inl ⟨rfl,List.eq_nil_of_length_eq_zero hn⟩
 ·refine .inr ⟨g,cap,rfl,hnc,hcm,⟨cur.toList,by simpa[Blk]using hg⟩,fun i u hi=>?_⟩;obtain⟨rv,cv,c1,c2,h3,h4⟩:=h2.get hi;have hc:=Av h1;obtain⟨_,_,e,_,_,_,hat⟩:=hc;cases e;obtain⟨g1,o1,e1,_,d1⟩:=hat _ _ c1;obtain⟨g2,o2,e2,_,d2⟩:=hat _ _ c2;cases e1;cases e2;rw[Nat.zero_add]at d1 d2;refine⟨rv,cv,d1,d2,BG h3 hB (fun j hj=>⟨u.row[j],by simp[V,hj]⟩),BG h4 hB (fun j hj=>⟨u.code[j].a,(BI (X hj)).2.1⟩)⟩
theorem NumRow.el{t:TypeId}{p:Nat→Nat}{W:World}{B B2 n c j:Nat}{a:Option Addr}(h:NumRow t p W B B2 (.slice a n c) n)(hj:j<n):∃g cs,a=some ⟨g,0,none⟩∧B≤g∧g<B2∧Blk W g cs t∧∃x:Int,cs[p j]? =some (.int .i64 x):=by
 rcases h with⟨_,h⟩| ⟨g,cap,cs,e,h1,h2,h3,_,_,h6⟩
 ·omega
 ·cases e;exact⟨g,cs,rfl,h1,h2,h3,h6 j hj⟩
theorem NumRow.sl{t:TypeId}{p:Nat→Nat}{W:World}{B B2 n:Nat}{rv:Value}(h:NumRow t p W B B2 rv n):∃a c,rv= .slice a n c:=by
 rcases h with⟨e,hn⟩| ⟨g,cap,cs,e,_⟩
 ·subst hn;exact⟨_,_,e⟩
 ·exact⟨_,_,e⟩
theorem CM.at{W:World}{B B2 n c i:Nat}{a:Option Addr}{us:List Un}{u:Un}(h:CM W B B2 (.slice a n c) us)(hi:us[i]? =some u):∃G ra rc ca cc,a=some ⟨G,0,none⟩∧G<W.heap.size∧W.cell? ⟨G,i*3+1,none⟩=some (.slice ra u.row.length rc)∧W.cell? ⟨G,i*3+2,none⟩=some (.slice ca u.code.length cc)∧
 NumRow 3 (fun j=>j) W B B2 (.slice ra u.row.length rc) u.row.length∧NumRow 35 (fun j=>j*4+1) W B B2 (.slice ca u.code.length cc) u.code.length:=by
 rcases h with⟨_,rfl⟩| ⟨G,cap,e,_,_,_,h4⟩
 ·simp at hi
 ·cases e;obtain⟨rv,cv,c1,c2,h5,h6⟩:=h4 i u hi;obtain⟨ra,rc,rfl⟩:=h5.sl;obtain⟨ca,cc,rfl⟩:=h6.sl;exact⟨G,ra,rc,ca,cc,rfl,World.block_lt_of_cell? W _ c1,c1,c2,h5,h6⟩
end Go.Proofs.YtahbajmkhjngiaaGreatDoor
