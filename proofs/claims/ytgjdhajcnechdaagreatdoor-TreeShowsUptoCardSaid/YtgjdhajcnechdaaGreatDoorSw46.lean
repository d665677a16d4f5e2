/-
  The closure of Names: it notes a name. replaced: the state of a node whose operands are replaced, beside what the function value writes. replaced: an alias is copied. replaced with the closure of Name
-/
import Derived.Test.YtgjdhajcnechdaaGreatDoorSw44
import Derived.Test.YtgjdhajcnechdaaGreatDoorSw37
import Derived.Test.YtgjdhajcnechdaaGreatDoorSw33
set_option linter.all false
set_option maxRecDepth 100000
set_option maxHeartbeats 8000000
namespace Go.Proofs.YtgjdhajcnechdaaGreatDoor
open Go.Proofs.Tryz
open Go.RowKit
structure Nw(w:World)(b:Nat)(ov:Value)(l:List Bs):Prop where
 blk:Blk w b [ov] 24
 row:w.ownsRow (b+1) 9 1 ov l.length (l.map str)
section
variable {w w1:World}{b:Nat}{ov:Value}{l:List Bs}{h:Hd}{pa la:Option Addr}{pn pc ln lc:Nat}
theorem Nw.gbN(h:Nw w b ov l)(g:w.grownBy w1 none):Nw w1 b ov l:=⟨h.blk.gb g (by simp),h.row.kept g (by cases ov.ownBlock with|none=>exact .inl rfl|some _=>exact .inr (by simp))⟩
theorem Nw.own(h:Nw w b ov l):∀k,ov.ownBlock=some k→b<k∧k<w.heap.size:=fun k e=>by have:=h.row.lt k e;omega
theorem Nw.append{s:Bs}{g cap:Nat}(h:Nw w b ov l)(hO:w1.ownsRow (b+1) 9 1 (.slice (some ⟨g,0,none⟩) (l.length+1) cap) (l.length+1) (l.map str++[str s]))(hG:w.grownBy w1 ov.ownBlock)(hat:ov.ownBlock=some g∨g=w.heap.size):
 Nw (w1.setCell ⟨b,0,none⟩ (.slice (some ⟨g,0,none⟩) (l.length+1) cap)) b (.slice (some ⟨g,0,none⟩) (l.length+1) cap) (l++[s])∧WK w (w1.setCell ⟨b,0,none⟩ (.slice (some ⟨g,0,none⟩) (l.length+1) cap)) b ov (.slice (some ⟨g,0,none⟩) (l.length+1) cap):=by
 have gs:w1.grownBy (w1.setCell ⟨b,0,none⟩ (.slice (some ⟨g,0,none⟩) (l.length+1) cap)) (some b):=AH (Ac w1 (some b)) 0 _;refine⟨⟨((h.blk.gb hG (fun e=>by have:=(h.own b e.symm).1;omega)).set 0 _).of_eq rfl rfl,?_⟩,(WK.of_own (ov1:= .slice (some ⟨g,0,none⟩) (l.length+1) cap) hG ?_).gbB gs⟩
 ·rw[List.length_append,List.map_append];exact C2 hO gs (by intro q hq _ e;cases e;omega)
 ·intro k hk;simp[Value.ownBlock]at hk;subst hk;rcases hat with h1|h1
  ·exact .inl h1
  ·exact .inr (by omega)
theorem WK.later{w w1 w2:World}{b c:Nat}{ov ov1:Value}(h:WK w w1 b ov ov1)(g:w1.grownBy w2 (some c))(hc:w.heap.size≤c):WK w w2 b ov ov1:=
 ⟨g.os.trans h.os,g.tape.trans h.tape,g.output.trans h.output,Nat.le_trans h.size g.size,fun i hi h1 h2=>(g.block i (Nat.lt_of_lt_of_le hi h.size) (by intro e;cases e;omega)).trans (h.block i hi h1 h2),h.own⟩
theorem Nw.later{w2:World}{c:Nat}(h:Nw w1 b ov l)(g:w1.grownBy w2 (some c))(hb:c≠b)(ho:ov.ownBlock≠some c):Nw w2 b ov l:=
 ⟨h.blk.gb g (by intro e;cases e;exact hb rfl),h.row.kept g (.inr (by first|exact ho|exact fun e=>ho e.symm))⟩
theorem Rf(hn:Nw w b ov l)(hl:l.length≤1000000):
 Calls Tryz.prog 41 #[exV h (.slice pa pn pc) (.slice la ln lc),.pointer (some ⟨b,0,none⟩)] w fun e w'=>e= .returned (exV h (.slice pa pn pc) (.slice la ln lc))∧∃ov',Nw w' b ov' (l++[h.s])∧WK w w' b ov ov':=by
 have gA:=World.grownBy_alloc w (.cells (hdC h (.slice pa pn pc) (.slice la ln lc)).toArray 27 (0,0)) none;have gB:=World.grownBy_alloc (w.alloc (.cells (hdC h (.slice pa pn pc) (.slice la ln lc)).toArray 27 (0,0))) (.cells zeroE.toArray 27 (0,0)) none;have gC:=World.grownBy_alloc ((w.alloc (.cells (hdC h (.slice pa pn pc) (.slice la ln lc)).toArray 27 (0,0))).alloc (.cells zeroE.toArray 27 (0,0))) (.cells [str h.s].toArray 9 (0,0)) none;have HX:=O ((Blk.alloc (Blk.new w (hdC h (.slice pa pn pc) (.slice la ln lc)) 27) (.cells zeroE.toArray 27 (0,0))).gb gC (by simp));have HY:=O (((Blk.new (w.alloc (.cells (hdC h (.slice pa pn pc) (.slice la ln lc)).toArray 27 (0,0))) zeroE 27).of_eq (show _=w.heap.size+1 by simp) rfl).gb gC (by simp));have HN:=O (Z (hn.gbN (Aa (Aa gA gB) gC)) (Aa (Aa gA gB) gC));have hnc:=BZ ((w.alloc (.cells (hdC h (.slice pa pn pc) (.slice la ln lc)).toArray 27 (0,0))).alloc (.cells zeroE.toArray 27 (0,0))) [str h.s] 9;rw[show((w.alloc (.cells (hdC h (.slice pa pn pc) (.slice la ln lc)).toArray 27 (0,0))).alloc (.cells zeroE.toArray 27 (0,0))).heap.size=w.heap.size+1+1 by simp]at hnc;have HNC:=O hnc;have hbl:=hn.blk.lt;have c0:=hn.blk.cell 0;have hb0:=Blk.new w (hdC h (.slice pa pn pc) (.slice la ln lc)) 27;obtain⟨x_0,x_1,x_2,x_3,x_4,x_5,x_6,x_f⟩:=(hb0).c7;obtain⟨i0,hi0,hz0,hz1,hz2⟩:=info_parts C0;have HI:=O (Z hi0 (Z hz0 (Z hz1 hz2)));have hsz:(b+1≤w.heap.size):=hbl;have HO0:=O hn.own;clear hn gA gB gC hb0 hnc hi0 hz0 hz1 hz2;go_enter func41,ntmps41
 go_wp2_with (at_builtin;(refine wpList_append_lies _ rfl _ _ 24 rfl (b+1) 9 i0 (str []) 1 16 underlying24 HI.out.1 HI.out.2.1 HI.out.2.2.1 HI.out.2.2.2 rfl (by decide) ov l.length (l.map str) rfl HN.out.1.row ⟨w.heap.size+1+1,0,none⟩ 1 1 [str h.s] rfl rfl HNC.out (by simp[Value.oneCell']) (by decide) (by unfold maxLen;omega) (by omega) (by simp;omega) _ rfl ?_;intro g cap w6 hown hgrow hat hlt;(have hX:=HN.out.1.append hown hgrow hat);(have hb7:=HX.out.gb hgrow (fun e=>by have:=HO0.out _ e.symm;omega));(have hy7:=HY.out.gb hgrow (fun e=>by have:=HO0.out _ e.symm;omega));(have hn7:=HN.out.1.blk.gb hgrow (fun e=>by have:=(HO0.out _ e.symm).1;omega));(have l7:=hb7.lt);(have l8:=hy7.lt);(have l9:=hn7.lt);(have f9:=hn7.frozen 0);(have d9:=hn7.cell 0);(have HZ:=O (Z hX hy7));obtain⟨s_0,s_1,s_2,s_3,s_4,s_5,s_6,s_f⟩:=(hb7).c7;(obtain⟨z0,z1,z2,z3,z4,z5,z6,zf⟩:=Blk.c7 hy7);clear hown hgrow hX hat hb7 hy7 hn7));have gs:w6.grownBy (w6.setCell ⟨b,0,none⟩ (.slice (some ⟨g,0,none⟩) (l.length+1) cap)) (some b):=AH (Ac w6 (some b)) 0 _;have g7:=Ah (w6.setCell ⟨b,0,none⟩ (.slice (some ⟨g,0,none⟩) (l.length+1) cap)) (w.heap.size+1) (.int .i64 h.op) (str h.s) (.int .i64 h.vk) (.int .i64 h.vn) (str h.vs) (.slice pa pn pc) (.slice la ln lc);have hoc:Value.ownBlock (.slice (some ⟨g,0,none⟩) (l.length+1) cap)≠some (w.heap.size+1):=fun e=>by
  rcases HZ.out.1.2.own _ e with h1|h1
  ·have:=(HO0.out _ h1).2;omega
  ·simp at h1;omega
 exact bodyPost_ret (Al (hd:=h) (pv:= .slice pa pn pc) (lv:= .slice la ln lc) rfl _ ((HZ.out.2.gb gs (by simp;omega)).set7 (.int .i64 h.op) (str h.s) (.int .i64 h.vk) (.int .i64 h.vn) (str h.vs) (.slice pa pn pc) (.slice la ln lc)) rfl) rfl ⟨rfl,_,HZ.out.1.1.later g7 (by omega) hoc,((WK.of_none HN.out.2).trans HZ.out.1.2).later g7 (by omega)⟩
end
def frW(c d b:Nat)(ex:Nat→Prop)(lv ov:Value)(q:Nat):Prop:=q≠c∧q≠d∧q≠b∧lv.ownBlock≠some q∧ov.ownBlock≠some q∧ex q
structure KW(B c d b:Nat)(ex:Nat→Prop)(h:Hd)(pv lv:Value)(acc:Fo)(ov:Value)(wr:World):Prop where
 blk:Blk wr c (hdC h pv lv) 27
 hp:Cells wr pv 1 h.p.length (h.p.map str) (frW c d b ex lv ov)
 row:∃cs,wr.ownsRow B 27 7 lv acc.len cs∧RepF (frW c d b ex lv ov) wr acc cs
 lo:b<B∧c<B∧b≠c∧d<B
 sep:∀q,lv.ownBlock=some q→ov.ownBlock≠some q
 own:ov.ownBlock≠some c
section
variable {B c d b j cap:Nat}{ex:Nat→Prop}{h:Hd}{pv lv px lx ov ov1:Value}{acc:Fo}{wr w1:World}{x:Ex}{cs:List Value}
theorem KW.shape(k:KW B c d b ex h pv lv acc ov wr):∃a n,lv= .slice a acc.len n:=by
 obtain⟨cs,h1,_⟩:=k.row;obtain⟨a,n,e,_⟩:=AU h1;exact⟨a,n,e⟩
theorem KW.rown(k:KW B c d b ex h pv lv acc ov wr):∀q,lv.ownBlock=some q→B≤q∧q<wr.heap.size:=by
 obtain⟨cs,h1,_⟩:=k.row;exact fun q e=>h1.lt q e
theorem CN{v:Value}{size n:Nat}{ds:List Value}{ok:Nat→Prop}(hc:Cells wr v size n ds ok)(g:WK wr w1 b ov ov1)(hk:∀q,ok q→q≠b∧ov.ownBlock≠some q):Cells w1 v size n ds ok:=by
 obtain⟨a,cap,e,h1,h2,h3,h4⟩:=hc;refine⟨a,cap,e,h1,h2,h3,fun j u hj=>?_⟩;obtain⟨gg,o,ea,hk2,hcc⟩:=h4 j u hj;exact⟨gg,o,ea,hk2,g.cell hcc (hk gg hk2).1 (hk gg hk2).2⟩
theorem Sl{ok:Nat→Prop}(g:WK wr w1 b ov ov1)(hk:∀q,ok q→q≠b∧ov.ownBlock≠some q):∀{f:Fo}{ds:List Value},RepF ok wr f ds→RepF ok w1 f ds:=by
 intro f;induction f with
 |nil=>intro ds h;exact h
 | cons hd kids next ih1 ih2=>
   rintro ds ⟨pv,lv,kcs,rest,e,h1,h2,h3,h4⟩;exact⟨pv,lv,kcs,rest,e,CN h1 g hk,CN h2 g hk,ih1 h3,ih2 h4⟩
theorem FO{ok:Nat→Prop}{v:Value}{f:Fo}(h:RepL ok wr v f)(g:WK wr w1 b ov ov1)(hk:∀q,ok q→q≠b∧ov.ownBlock≠some q):RepL ok w1 v f:=by
 obtain⟨cs,h1,h2⟩:=h;exact⟨cs,CN h1 g hk,Sl g hk h2⟩
theorem ST{e size n:Nat}{v:Value}{xs:List Value}{B:Nat}(h:wr.ownsRow B e size v n xs)(g:WK wr w1 b ov ov1)(hb:b<B)(hs:∀q,v.ownBlock=some q→ov.ownBlock≠some q):w1.ownsRow B e size v n xs:=by
 refine⟨h.1,?_⟩;rcases h.2 with hn| ⟨q,cp,cur,rfl,hbq,hq,rest⟩
 ·exact .inl hn
 ·exact .inr ⟨q,cp,cur,rfl,hbq,(g.block q (Array.getElem?_eq_some_iff.1 hq).1 (by omega) (hs q rfl)).trans hq,rest⟩
theorem KW.kept(k:KW B c d b ex h pv lv acc ov wr)(g:WK wr w1 b ov ov1):KW B c d b ex h pv lv acc ov1 w1:=by
 have hlo:=k.lo;have hk:∀q,frW c d b ex lv ov q→q≠b∧ov.ownBlock≠some q:=fun q hq=>⟨hq.2.2.1,hq.2.2.2.2.1⟩;have hn:∀q,q<wr.heap.size→ov.ownBlock≠some q→ov1.ownBlock≠some q:=fun q hl ho e=>by
  rcases g.own q e with h1|h1
  ·exact ho h1
  ·omega
 have hf:∀q,frW c d b ex lv ov q→q<wr.heap.size→frW c d b ex lv ov1 q:=fun q hq hl=>⟨hq.1,hq.2.1,hq.2.2.1,hq.2.2.2.1,hn q hl hq.2.2.2.2.1,hq.2.2.2.2.2⟩;have mv:∀{v:Value}{size n:Nat}{ds:List Value},Cells wr v size n ds (frW c d b ex lv ov)→Cells w1 v size n ds (frW c d b ex lv ov1):=fun hc=>
  (CN (hc.mono (ok':=fun q=>frW c d b ex lv ov q∧frW c d b ex lv ov1 q) (fun q hq hl=>⟨hq,hf q hq hl⟩)) g (fun q hq=>hk q hq.1)).mono fun q hq _=>hq.2
 have mr:∀{f:Fo}{ds:List Value},RepF (frW c d b ex lv ov) wr f ds→RepF (frW c d b ex lv ov1) w1 f ds:=by
  intro f;induction f with
  |nil=>intro ds hr;exact hr
  | cons a k n ih1 ih2=>
    rintro ds ⟨pv1,lv1,kcs,rest,e,h1,h2,h3,h4⟩;exact⟨pv1,lv1,kcs,rest,e,mv h1,mv h2,ih1 h3,ih2 h4⟩
 obtain⟨cs,h1,h2⟩:=k.row;exact⟨g.blk k.blk (by omega) k.own,mv k.hp,⟨cs,ST h1 g (by omega) k.sep,mr h2⟩,hlo,fun q e=>hn q (h1.lt q e).2 (k.sep q e),hn c k.blk.lt k.own⟩
theorem KW.gbN(k:KW B c d b ex h pv lv acc ov wr)(g:wr.grownBy w1 none):KW B c d b ex h pv lv acc ov w1:=k.kept (WK.of_none g)
theorem KW.append(c0:KW B c d b ex h pv lv acc ov wr)(hrep:RepF (frW c d b ex lv ov) wr acc cs)(hx1:Cells wr px 1 x.h.p.length (x.h.p.map str) (frW c d b ex lv ov))(hx2:RepL (frW c d b ex lv ov) wr lx x.kids)
 (hown:w1.ownsRow B 27 7 (.slice (some ⟨j,0,none⟩) (acc.len+1) cap) (acc.len+1) (cs++hdC x.h px lx)) (hg:wr.grownBy w1 lv.ownBlock) (hat:lv.ownBlock=some j∨j=wr.heap.size) (hov:∀q,ov.ownBlock=some q→q<wr.heap.size):
 KW B c d b ex h pv (.slice (some ⟨j,0,none⟩) (acc.len+1) cap) (acc.snoc x) ov (w1.setCell ⟨c,6,none⟩ (.slice (some ⟨j,0,none⟩) (acc.len+1) cap)):=by
 have hlo:=c0.lo;have hB:B≤j:=by
  have:=hown.lt j rfl;omega
 have hj:ov.ownBlock≠some j:=fun e=>by
  rcases hat with h1|h1
  ·exact c0.sep j h1 e
  ·have:=hov j e;omega
 have hf:∀q,frW c d b ex lv ov q→q<wr.heap.size→frW c d b ex (.slice (some ⟨j,0,none⟩) (acc.len+1) cap) ov q:=fun q hq hl=>⟨hq.1,hq.2.1,hq.2.2.1,fun e=>by
  simp[Value.ownBlock]at e;subst e;rcases hat with h1|h1
  ·exact hq.2.2.2.1 h1
  ·omega,hq.2.2.2.2⟩
 have gs:w1.grownBy (w1.setCell ⟨c,6,none⟩ (.slice (some ⟨j,0,none⟩) (acc.len+1) cap)) (some c):=AH (Ac w1 (some c)) 6 _;have hnb:∀q,frW c d b ex (.slice (some ⟨j,0,none⟩) (acc.len+1) cap) ov q→some q≠some c:=fun q hq e=>by cases e;exact hq.1 rfl
 have mv:∀{v:Value}{size n:Nat}{ds:List Value},Cells wr v size n ds (frW c d b ex lv ov)→Cells (w1.setCell ⟨c,6,none⟩ (.slice (some ⟨j,0,none⟩) (acc.len+1) cap)) v size n ds (frW c d b ex (.slice (some ⟨j,0,none⟩) (acc.len+1) cap) ov):=fun hc=>
  (((hc.mono (ok':=fun q=>frW c d b ex lv ov q∧frW c d b ex (.slice (some ⟨j,0,none⟩) (acc.len+1) cap) ov q) (fun q hq hl=>⟨hq,hf q hq hl⟩)).gb hg (fun q hq _ e=>hq.1.2.2.2.1 e.symm)).mono (fun q hq _=>hq.2)).gb gs (fun q hq _=>hnb q hq)
 have mr:∀{f:Fo}{ds:List Value},RepF (frW c d b ex lv ov) wr f ds→RepF (frW c d b ex (.slice (some ⟨j,0,none⟩) (acc.len+1) cap) ov) (w1.setCell ⟨c,6,none⟩ (.slice (some ⟨j,0,none⟩) (acc.len+1) cap)) f ds:=by
  intro f;induction f with
  |nil=>intro ds hr;exact hr
  | cons a k n ih1 ih2=>
    rintro ds ⟨pv1,lv1,kcs,rest,e,h1,h2,h3,h4⟩;exact⟨pv1,lv1,kcs,rest,e,mv h1,mv h2,ih1 h3,ih2 h4⟩
 refine⟨((c0.blk.gb hg (fun e=>by have:=c0.rown c e.symm;omega)).set 6 _).of_eq rfl rfl,mv c0.hp,⟨cs++hdC x.h px lx,?_,?_⟩,hlo,fun q e=>?_,c0.own⟩
 ·rw[Fo.len_snoc];exact C2 hown gs (by intro q hq _ e;cases e;omega)
 ·obtain⟨kcs,k1,k2⟩:=hx2;exact RepF.app (mr hrep) (VE.rep (mv hx1) ⟨kcs,mv k1,mr k2⟩)
 ·simp[Value.ownBlock]at e;subst e;exact hj
theorem KW.ve{pa la:Option Addr}{pc lc:Nat}(k:KW B c d b ex h (.slice pa h.p.length pc) (.slice la acc.len lc) acc ov wr)(g:wr.grownBy w1 (some d))(hex:∀q,B≤q→ex q):VE (fun q=>q≠b∧ov.ownBlock≠some q∧ex q) w1 (exV h (.slice pa h.p.length pc) (.slice la acc.len lc)) ⟨h,acc⟩:=by
 have hlo:=k.lo;have hs:∀q,q≠d→some q≠some d:=fun q hq e=>by cases e;exact hq rfl
 obtain⟨cs,h1,h2⟩:=k.row;refine⟨pa,pc,la,lc,rfl,((k.hp.gb g (fun q hq _=>hs q hq.2.1)).mono fun q hq _=>⟨hq.2.2.1,hq.2.2.2.2⟩),cs,?_,(RepF.gb g (fun q hq _=>hs q hq.2.1) h2).mono fun q hq _=>⟨hq.2.2.1,hq.2.2.2.2⟩⟩;obtain⟨a,cp,e,q1,q2,q3,q4⟩:=AU h1;refine((show Cells wr (.slice la acc.len lc) 7 acc.len cs (fun q=>B≤q∧ov.ownBlock≠some q)from⟨a,cp,e,q1,q2,q3,fun i u hu=>?_⟩).gb g (fun q hq _=>hs q (by have:=hq.1;omega))).mono fun q hq _=>⟨by have:=hq.1;omega,hq.2,hex q hq.1⟩;obtain⟨gg,o,ea,ho,hc⟩:=q4 i u hu;refine⟨gg,o,ea,⟨ho,?_⟩,hc⟩;cases e;exact fun e2=>k.sep gg (by rw[ea];rfl) e2
end
section
variable {w:World}{h:Hd}{k:Fo}{pa la:Option Addr}{pc lc:Nat}{bv fv:Value}
theorem Nb(h2:h.op=2)(hp:Cells w (.slice pa h.p.length pc) 1 h.p.length (h.p.map str) (fun _=>True))(hr:RepL (fun _=>True) w (.slice la k.len lc) k)(hf:h.fit)(hk:k.fit)(hn:k.nodes≤1000000):
 Calls Tryz.prog 24 #[exV h (.slice pa h.p.length pc) (.slice la k.len lc),bv,fv] w fun e w'=>∃v,e= .returned v∧VE (A8 w.heap.size) w' v ⟨h,k⟩∧w.grownBy w' none:=by
 have HC:=O (fun(W:World)(g:w.grownBy W none)=>Ns (x:=⟨h,k⟩) ⟨pa,pc,la,lc,rfl,hp.gb g (by simp),hr.gb g (by simp)⟩ hf hk hn);have HX:=O (Blk.new w (hdC h (.slice pa h.p.length pc) (.slice la k.len lc)) 27);have HY:=O ((Blk.new (w.alloc (.cells (hdC h (.slice pa h.p.length pc) (.slice la k.len lc)).toArray 27 (0,0))) zeroE 27).of_eq (show _=w.heap.size+1 by simp) rfl);have hX:=HX.out;obtain⟨x_0,x_1,x_2,x_3,x_4,x_5,x_6,x_f⟩:=(hX).c7;have c1:(h.op==1)=false:=by rw[h2];rfl
 have c2:(h.op==2)=true:=by rw[h2];rfl
 clear hp hr hf hk hn hX h2;go_enter func24,ntmps24;go_wp2_with fail;refine(HC.out _ (by repeat(first| (with_reducible exact Ac _ _)| (with_reducible assumption)| (with_reducible exact AX (by assumption))| (with_reducible refine Ad ?_ _)| (with_reducible refine Am ?_)| (with_reducible refine Ay ?_ _)| ((with_reducible refine Az ?_ _ _ ?h2);case h2=>first|exact .inl rfl|exact .inr (Nat.le_refl _)|exact .inr (by simp<;>omega))| (with_reducible refine Ag ?_ (by assumption))| (with_reducible refine Aa ?_ (by assumption))))).mono ?_;rintro e w1 ⟨v,rfl,⟨pa1,pc1,la1,lc1,rfl,q1,q2⟩,g1⟩;have hy1:=HY.out.gb g1 (by simp);have hyl:=hy1.lt;have g01:w.grownBy w1 none:=Aa (by repeat(first| (with_reducible exact Ac _ _)| (with_reducible assumption)| (with_reducible exact AX (by assumption))| (with_reducible refine Ad ?_ _)| (with_reducible refine Am ?_)| (with_reducible refine Ay ?_ _)| ((with_reducible refine Az ?_ _ _ ?h2);case h2=>first|exact .inl rfl|exact .inr (Nat.le_refl _)|exact .inr (by simp<;>omega))| (with_reducible refine Ag ?_ (by assumption))| (with_reducible refine Aa ?_ (by assumption)))) g1;have hfr:∀q,w.heap.size+2≤q→some q≠some (w.heap.size+1):=fun q hq e=>by cases e;omega
 have HZ:=O (Z hy1 (Z g01 (Z (q1.mono (ok':=fun q=>w.heap.size+2≤q) (fun q hq _=>by simpa using hq)) (q2.mono (ok':=fun q=>w.heap.size+2≤q) (fun q hq _=>by simpa using hq)))));obtain⟨z0,z1,z2,z3,z4,z5,z6,zf⟩:=Blk.c7 hy1;clear hy1 g01 q1 q2 g1 x_0 x_1 x_2 x_3 x_4 x_5 x_6 x_f;go_wp2;have g7:=Ah w1 (w.heap.size+1) (.int .i64 h.op) (str h.s) (.int .i64 h.vk) (.int .i64 h.vn) (str h.vs) (.slice pa1 h.p.length pc1) (.slice la1 k.len lc1);exact bodyPost_ret (Al (hd:=h) (pv:= .slice pa1 h.p.length pc1) (lv:= .slice la1 k.len lc1) rfl _ (HZ.out.1.set7 (.int .i64 h.op) (str h.s) (.int .i64 h.vk) (.int .i64 h.vn) (str h.vs) (.slice pa1 h.p.length pc1) (.slice la1 k.len lc1)) rfl) rfl
  ⟨_,rfl,⟨pa1,pc1,la1,lc1,rfl,(HZ.out.2.2.1.gb g7 (fun q hq _=>hfr q hq)).mono (fun q hq _=>by have:w.heap.size+2≤q:=hq;show w.heap.size≤q;omega),(HZ.out.2.2.2.gb g7 (fun q hq _=>hfr q hq)).mono (fun q hq _=>by have:w.heap.size+2≤q:=hq;show w.heap.size≤q;omega)⟩,A9 HZ.out.2.1 g7 (.inr (by omega))⟩
end
section
variable {w:World}{b:Nat}{ov:Value}{l p:List Bs}{h:Hd}{pa la ba:Option Addr}{pn pc ln lc bc:Nat}
theorem Na(h1:h.op=1)(hc:p.contains h.s=false)(hw:Nw w b ov l)(hl:l.length≤1000000)(hb:Cells w (.slice ba p.length bc) 1 p.length (p.map str) (fun _=>True))(hpl:p.length≤8000000):
 Calls Tryz.prog 24 #[exV h (.slice pa pn pc) (.slice la ln lc),.slice ba p.length bc,.func (.func 41) #[] #[.pointer (some ⟨b,0,none⟩)]] w fun e w'=>e= .returned (exV h (.slice pa pn pc) (.slice la ln lc))∧∃ov',Nw w' b ov' (l++[h.s])∧WK w w' b ov ov':=by
 have HC:=O (fun(W:World)(g:w.grownBy W none)=>by have:=Ii (hb.gb g (by simp)) hpl h.s;rw[hc]at this;exact this);have HN:=O (fun(W:World)(g:w.grownBy W none)=>Rf (h:=h) (pa:=pa) (pn:=pn) (pc:=pc) (la:=la) (ln:=ln) (lc:=lc) (hw.gbN g) hl);have HX:=O (Blk.new w (hdC h (.slice pa pn pc) (.slice la ln lc)) 27);have HY:=O ((Blk.new (w.alloc (.cells (hdC h (.slice pa pn pc) (.slice la ln lc)).toArray 27 (0,0))) zeroE 27).of_eq (show _=w.heap.size+1 by simp) rfl);have H0:=O (Z hw.own hw.blk.lt);have hX:=HX.out;obtain⟨x_0,x_1,x_2,x_3,x_4,x_5,x_6,x_f⟩:=(hX).c7;have c1:(h.op==1)=true:=by rw[h1];rfl
 clear hc hw hb hX h1;go_enter func24,ntmps24;go_wp2_with fail;refine(HC.out _ (by repeat(first| (with_reducible exact Ac _ _)| (with_reducible assumption)| (with_reducible exact AX (by assumption))| (with_reducible refine Ad ?_ _)| (with_reducible refine Am ?_)| (with_reducible refine Ay ?_ _)| ((with_reducible refine Az ?_ _ _ ?h2);case h2=>first|exact .inl rfl|exact .inr (Nat.le_refl _)|exact .inr (by simp<;>omega))| (with_reducible refine Ag ?_ (by assumption))| (with_reducible refine Aa ?_ (by assumption))))).mono ?_;rintro e w1 ⟨rfl,rfl⟩;go_wp2_with fail;refine(HN.out _ (by repeat(first| (with_reducible exact Ac _ _)| (with_reducible assumption)| (with_reducible exact AX (by assumption))| (with_reducible refine Ad ?_ _)| (with_reducible refine Am ?_)| (with_reducible refine Ay ?_ _)| ((with_reducible refine Az ?_ _ _ ?h2);case h2=>first|exact .inl rfl|exact .inr (Nat.le_refl _)|exact .inr (by simp<;>omega))| (with_reducible refine Ag ?_ (by assumption))| (with_reducible refine Aa ?_ (by assumption))))).mono ?_;rintro e w1 ⟨rfl,ov1,n1,k1⟩;have hy1:=k1.blk HY.out (by have:=H0.out.2;omega) (fun e=>by have:=(H0.out.1 _ e).2;omega);have hyl:=hy1.lt;have hoc:ov1.ownBlock≠some (w.heap.size+1):=fun e=>by
  rcases k1.own _ e with h1|h1
  ·have:=(H0.out.1 _ h1).2;omega
  ·have h3:w.heap.size+1+1≤w.heap.size+1:=by first| (simpa using h1)| (have:=h1;simp only[World.alloc,Array.size_push]at this;exact this)
   omega
 have HZ:=O (Z hy1 (Z n1 (Z (WK.trans (w:=w) (WK.of_none (by repeat(first| (with_reducible exact Ac _ _)| (with_reducible assumption)| (with_reducible exact AX (by assumption))| (with_reducible refine Ad ?_ _)| (with_reducible refine Am ?_)| (with_reducible refine Ay ?_ _)| ((with_reducible refine Az ?_ _ _ ?h2);case h2=>first|exact .inl rfl|exact .inr (Nat.le_refl _)|exact .inr (by simp<;>omega))| (with_reducible refine Ag ?_ (by assumption))| (with_reducible refine Aa ?_ (by assumption))))) k1) hoc)));obtain⟨z0,z1,z2,z3,z4,z5,z6,zf⟩:=Blk.c7 hy1;clear hy1 n1 k1 hoc x_0 x_1 x_2 x_3 x_4 x_5 x_6 x_f;go_wp2;have g7:=Ah w1 (w.heap.size+1) (.int .i64 h.op) (str h.s) (.int .i64 h.vk) (.int .i64 h.vn) (str h.vs) (.slice pa pn pc) (.slice la ln lc);exact bodyPost_ret (Al (hd:=h) (pv:= .slice pa pn pc) (lv:= .slice la ln lc) rfl _ (HZ.out.1.set7 (.int .i64 h.op) (str h.s) (.int .i64 h.vk) (.int .i64 h.vn) (str h.vs) (.slice pa pn pc) (.slice la ln lc)) rfl) rfl
  ⟨rfl,_,HZ.out.2.1.later g7 (by have:=H0.out.2;omega) HZ.out.2.2.2,HZ.out.2.2.1.later g7 (by omega)⟩
end
theorem J6:∀(f:Fo)(p:List Bs),(AA f p).length≤f.nodes:=by
 intro f;induction f with
 |nil=>intro p;exact Nat.le_refl _
 | cons h k n ihk ihn=>
   intro p;show(Bp h p (AA k)++AA n p).length≤1+k.nodes+n.nodes;have h1:=ihn p;have h2:=ihk p;have h3:=ihk (p++h.p);rw[List.length_append];unfold Bp;split
   ·simp;omega
   ·split
    ·simp;omega
    ·split<;>omega
theorem F6(h:Hd)(p:List Bs)(k:Fo):(Bp h p (AA k)).length≤1+k.nodes:=by
 have h2:=J6 k p;have h3:=J6 k (p++h.p);unfold Bp;split
 ·simp
 ·split
  ·simp
  ·split<;>omega
theorem WK.laterO{w w1 w2:World}{b:Nat}{ov ov1:Value}{o:Option Nat}(h:WK w w1 b ov ov1)(g:w1.grownBy w2 o)(hc:∀c,o=some c→w.heap.size≤c):WK w w2 b ov ov1:=by
 cases o with
 |none=>exact h.gbN g
 |some c=>exact h.later g (hc c rfl)
def frO(b N:Nat)(ov:Value)(q:Nat):Prop:=q≠b∧ov.ownBlock≠some q∧q<N
def frP(b:Nat)(ov:Value)(q:Nat):Prop:=q≠b∧ov.ownBlock≠some q
structure DD(b n0:Nat)(I:World→Value→List Bs→Prop):Prop where
 gbO:∀{W W1:World}{ov:Value}{ns:List Bs}{o:Option Nat},I W ov ns→W.grownBy W1 o→(∀c,o=some c→n0≤c∧ov.ownBlock≠some c)→I W1 ov ns
 own:∀{W:World}{ov:Value}{ns:List Bs},I W ov ns→(∀q,ov.ownBlock=some q→b<q∧q<W.heap.size)∧b<n0∧n0≤W.heap.size
def DZ(I:World→Value→List Bs→Prop)(w:World)(b N:Nat)(ov:Value)(X:Ex)(ns:List Bs)(e:Ending)(w':World):Prop:=
 ∃v ov',e= .returned v∧VE (fun q=>q≠b∧ov'.ownBlock≠some q∧(q<N∨w.heap.size≤q)) w' v X∧I w' ov' ns∧WK w w' b ov ov'
def RpC(I:World→Value→List Bs→Prop)(fv:Value)(f:Ex→Ex)(b N:Nat)(h:Hd)(k:Fo)(p:List Bs):Prop:=∀(W:World)(ov:Value)(l:List Bs)(pa la ba:Option Addr)(pc lc bc:Nat),I W ov l→Cells W (.slice pa h.p.length pc) 1 h.p.length (h.p.map str) (frO b N ov)→RepL (frO b N ov) W (.slice la k.len lc) k→Cells W (.slice ba p.length bc) 1 p.length (p.map str) (frP b ov)→
 N≤W.heap.size→l.length+1+k.nodes≤1000001→Calls Tryz.prog 24 #[exV h (.slice pa h.p.length pc) (.slice la k.len lc),.slice ba p.length bc,fv] W
  (DZ I W b N ov (Bn f h p k (AG f k)) (l++Bp h p (AA k)))
section
variable {I:World→Value→List Bs→Prop}{fv:Value}{f:Ex→Ex}{w wr W:World}{b N n0:Nat}{ov:Value}{l p:List Bs}{h:Hd}{k:Fo}{pa la ba:Option Addr}{pc lc bc:Nat}
theorem RpC.at(E:RpC I fv f b N h k p)(K:DD b n0 I)(hw:I wr ov l)(hp:Cells wr (.slice pa h.p.length pc) 1 h.p.length (h.p.map str) (frO b N ov))(hr:RepL (frO b N ov) wr (.slice la k.len lc) k)(hb:Cells wr (.slice ba p.length bc) 1 p.length (p.map str) (frP b ov))
 (hN:N≤wr.heap.size) (hl:l.length+1+k.nodes≤1000001):∀(W:World),wr.grownBy W none→Calls Tryz.prog 24 #[exV h (.slice pa h.p.length pc) (.slice la k.len lc),.slice ba p.length bc,fv] W
 (DZ I wr b N ov (Bn f h p k (AG f k)) (l++Bp h p (AA k))):=by
 intro W g;refine(E W ov l pa la ba pc lc bc (K.gbO hw g (by simp)) (hp.gb g (by simp)) (hr.gb g (by simp)) (hb.gb g (by simp)) (Nat.le_trans hN g.size) hl).mono ?_;rintro e w' ⟨v,ov',rfl,h1,h2,h3⟩;exact⟨v,ov',rfl,h1.mono (fun q hq _=>⟨hq.1,hq.2.1,by have:=g.size;have:=hq.2.2;omega⟩),h2,(WK.of_none g).trans h3⟩
end
structure Sta(I:World→Value→List Bs→Prop)(B c d b:Nat)(ex:Nat→Prop)(h:Hd)(pv lv:Value)(acc:Fo)(ov0 ov:Value)(X:Ex)(px lx:Value)(ns:List Bs)(wB:World)(cs:List Value)(w5 w6:World):Prop where
 kw:KW B c d b ex h pv lv acc ov w6
 kw5:Blk w5 c (hdC h pv lv) 27
 ho:w6.ownsRow B 27 7 lv acc.len cs
 rep:RepF (frW c d b ex lv ov) w6 acc cs
 x1:Cells w6 px 1 X.h.p.length (X.h.p.map str) (frW c d b ex lv ov)
 x2:RepL (frW c d b ex lv ov) w6 lx X.kids
 sz:B≤w6.heap.size
 nw:I w6 ov ns
 wk:WK wB w6 b ov0 ov
 db:Blk w6 d zeroE 27
 od:ov.ownBlock≠some d
 lo:wB.heap.size≤c∧d≠c
section
variable {I:World→Value→List Bs→Prop}{B c d b N n0 n1 j cap:Nat}{h:Hd}{pv lv px lx ov0 ov1 ov5:Value}{acc:Fo}{wB wr w5 w6 w7:World}{X:Ex}{ns:List Bs}{cs:List Value}{ex:Nat→Prop}
theorem KW.stepA(k0:KW B c d b (fun q=>q<N∨n0≤q) h pv lv acc ov1 wr)(K:DD b n1 I)(q1:Cells w5 px 1 X.h.p.length (X.h.p.map str) (fun q=>q≠b∧ov5.ownBlock≠some q∧(q<N∨wr.heap.size≤q)))(q2:RepL (fun q=>q≠b∧ov5.ownBlock≠some q∧(q<N∨wr.heap.size≤q)) w5 lx X.kids)
 (hn:I w5 ov5 ns) (hk:WK wr w5 b ov1 ov5) (hd:Blk wr d zeroE 27) (hwk:WK wB wr b ov0 ov1) (hod:ov1.ownBlock≠some d) (hN:N≤n0) (hb:b<n0) (hdn:n0≤d∧d≠c) (hcn:n0≤c) (hcB:wB.heap.size≤c) (hB:B≤wr.heap.size):
 ∃cs,Sta I B c d b (fun q=>q<N∨n0≤q) h pv lv acc ov0 ov5 X px lx ns wB cs w5 (w5.alloc (.cells (hdC X.h px lx).toArray 27 (0,0))):=by
 have k5:=k0.kept hk;have gA:=World.grownBy_alloc w5 (.cells (hdC X.h px lx).toArray 27 (0,0)) none;have k6:=k5.gbN gA;obtain⟨cs,ho,hr⟩:=k6.row;have hlo:=k0.lo;have hcl:=k0.blk.lt;have hdl:=hd.lt;have hs5:=hk.size;have hf:∀q,(q≠b∧ov5.ownBlock≠some q∧(q<N∨wr.heap.size≤q))→q<w5.heap.size→frW c d b (fun q=>q<N∨n0≤q) lv ov5 q:=fun q hq _=>
  ⟨by omega,by omega,hq.1,fun e=>by have:=k0.rown q e;omega,hq.2.1,by have:=hq.2.2;show q<N∨n0≤q;omega⟩
 refine⟨cs,k6,k5.blk,ho,hr,(q1.mono hf).gb gA (by simp),(q2.mono hf).gb gA (by simp),?_,K.gbO hn gA (by simp),(hwk.trans hk).gbN gA,(hk.blk hd (by omega) hod).gb gA (by simp),fun e=>?_,hcB,hdn.2⟩
 ·have:=gA.size;omega
 ·rcases hk.own _ e with h1|h1
  ·exact hod h1
  ·omega
theorem Sta.close(s:Sta I B c d b ex h pv lv acc ov0 ov5 X px lx ns wB cs w5 w6)(K:DD b n1 I)(hown:w7.ownsRow B 27 7 (.slice (some ⟨j,0,none⟩) (acc.len+1) cap) (acc.len+1) (cs++hdC X.h px lx))(hg:w6.grownBy w7 lv.ownBlock)(hat:lv.ownBlock=some j∨j=w6.heap.size)(hn1:n1≤c):
 KW B c d b ex h pv (.slice (some ⟨j,0,none⟩) (acc.len+1) cap) (acc.snoc X) ov5 (w7.setCell ⟨c,6,none⟩ (.slice (some ⟨j,0,none⟩) (acc.len+1) cap))∧Blk (w7.setCell ⟨c,6,none⟩ (.slice (some ⟨j,0,none⟩) (acc.len+1) cap)) d zeroE 27∧
  I (w7.setCell ⟨c,6,none⟩ (.slice (some ⟨j,0,none⟩) (acc.len+1) cap)) ov5 ns∧WK wB (w7.setCell ⟨c,6,none⟩ (.slice (some ⟨j,0,none⟩) (acc.len+1) cap)) b ov0 ov5:=by
 have hlo:=s.kw.lo;have hlo2:=s.lo;have hrn:=s.kw.rown;have hon:∀q,lv.ownBlock=some q→B≤q:=fun q e=>(hrn q e).1;have gs:w7.grownBy (w7.setCell ⟨c,6,none⟩ (.slice (some ⟨j,0,none⟩) (acc.len+1) cap)) (some c):=AH (Ac w7 (some c)) 6 _;refine⟨s.kw.append s.rep s.x1 s.x2 hown hg hat (fun q e=>((K.own s.nw).1 q e).2),?_,?_,?_⟩
 ·exact(s.db.gb hg (fun e=>by have:=hon d e.symm;omega)).gb gs (fun e=>by cases e;exact hlo2.2 rfl)
 ·have n7:I w7 ov5 ns:=K.gbO s.nw hg (fun q e=>⟨by have:=hon q e;omega,s.kw.sep q e⟩);exact K.gbO n7 gs (fun q e=>by cases e;exact⟨hn1,s.kw.own⟩)
 ·exact(s.wk.laterO hg (fun q e=>by have:=hon q e;omega)).later gs hlo2.1
end
end Go.Proofs.YtgjdhajcnechdaaGreatDoor
