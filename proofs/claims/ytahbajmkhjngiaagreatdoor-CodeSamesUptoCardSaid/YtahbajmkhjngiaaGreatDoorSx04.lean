/-
  What the memory of the parser holds: a row of tokens, a row of texts, the parser's own block; and how a call of the parser ends. How expressions lie in memory: a row of expressions is a slice of seven
-/
import Derived.Test.YtahbajmkhjngiaaGreatDoorSx01
import Derived.Test.YtahbajmkhjngiaaGreatDoorSx02
import Derived.Test.YtahbajmkhjngiaaGreatDoorProg
import Derived.KernelRfl
set_option linter.all false
set_option maxRecDepth 100000
set_option maxHeartbeats 8000000
namespace Go.Proofs.YtahbajmkhjngiaaGreatDoor
open Go.Proofs.Tryz
open Go.RowKit
abbrev str(l:Bs):Value:= .string ⟨l.toArray⟩
section
variable {w w1:World}{b:Nat}{tv wv:Value}{l:List Tok}{wl:List Bs}{i:Nat}
end
def Cells(w:World)(v:Value)(size n:Nat)(cs:List Value)(ok:Nat→Prop):Prop:=
 ∃a cap,v= .slice a n cap∧n≤cap∧cap≤maxLen∧cs.length=n*size∧∀j u,cs[j]? =some u→∃g o,a=some ⟨g,o,none⟩∧ok g∧w.cell? ⟨g,o+j,none⟩=some u
theorem Cells.gb{w w1:World}{v:Value}{size n:Nat}{cs:List Value}{ok:Nat→Prop}{r:Option Nat}(h:Cells w v size n cs ok)(g:w.grownBy w1 r)(hk:∀k,ok k→k<w.heap.size→some k≠r):Cells w1 v size n cs ok:=by
 obtain⟨a,cap,e,h1,h2,h3,h4⟩:=h;refine⟨a,cap,e,h1,h2,h3,fun j u hj=>?_⟩;obtain⟨gg,o,ea,ho,hc⟩:=h4 j u hj;exact⟨gg,o,ea,ho,Aq g hc (hk _ ho (World.block_lt_of_cell? w _ hc))⟩
theorem Cells.mono{w:World}{v:Value}{size n:Nat}{cs:List Value}{ok ok':Nat→Prop}(h:Cells w v size n cs ok)(hk:∀k,ok k→k<w.heap.size→ok' k):Cells w v size n cs ok':=by
 obtain⟨a,cap,e,h1,h2,h3,h4⟩:=h;refine⟨a,cap,e,h1,h2,h3,fun j u hj=>?_⟩;obtain⟨gg,o,ea,ho,hc⟩:=h4 j u hj;exact⟨gg,o,ea,hk _ ho (World.block_lt_of_cell? w _ hc),hc⟩
theorem Cells.nil(w:World)(size:Nat)(ok:Nat→Prop):Cells w (.slice none 0 0) size 0 [] ok:=⟨none,0,rfl,Nat.le_refl _,Nat.zero_le _,by simp,fun j u h=>by simp at h⟩
abbrev Al(B:Nat):Nat→Prop:=fun g=>B≤g
theorem Ap{w w1:World}{B e size n:Nat}{v:Value}{xs:List Value}{r:Option Nat}(h:w.ownsRow B e size v n xs)(g:w.grownBy w1 r)(hk:∀k,B≤k→k<w.heap.size→some k≠r):w1.ownsRow B e size v n xs:=by
 refine h.kept g ?_;cases hv:v.ownBlock with
 |none=>exact .inl rfl
 |some k=>exact .inr (hk k (h.lt k hv).1 (h.lt k hv).2)
theorem Av{w:World}{B e size n:Nat}{v:Value}{xs:List Value}(h:w.ownsRow B e size v n xs):Cells w v size n xs (Al B):=by
 rcases h.2 with⟨rfl,rfl⟩| ⟨g,cap,cur,rfl,hb,hg,hnc,hcm,hcs,htake⟩
 ·exact ⟨none, 0, rfl, Nat.le_refl _, Nat.zero_le _, h.1, fun j u hj => by
   have:xs=[]:=List.eq_nil_of_length_eq_zero (by simpa using h.1);subst this;simp at hj⟩
 ·refine⟨_,_,rfl,hnc,hcm,h.1,fun j u hj=>⟨g,0,rfl,hb,?_⟩⟩;have:=h.cells (g:=g) rfl j u hj;rw[Nat.zero_add];unfold Addr.add at this;split at this
  ·rename_i h0;subst h0;exact this
  ·simpa using this
theorem A2{w w1:World}{k:Nat}(h:w.grownBy w1 (some k))(i:Nat)(v:Value):w.grownBy (w1.setCell ⟨k,i,none⟩ v) (some k):=Am h ⟨k,i,none⟩ v (.inl rfl)
end Go.Proofs.YtahbajmkhjngiaaGreatDoor
