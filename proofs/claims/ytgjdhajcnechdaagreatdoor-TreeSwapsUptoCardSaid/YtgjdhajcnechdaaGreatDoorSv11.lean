/-
  Contracts of the parser: unary. Contracts of the parser: call, macro, braced. Contracts of the parser: braced, signed, named.
-/
import Derived.Test.YtgjdhajcnechdaaGreatDoorSv09
set_option linter.all false
set_option maxRecDepth 100000
set_option maxHeartbeats 8000000
namespace Go.Proofs.YtgjdhajcnechdaaGreatDoor
open Go.Proofs.Tryz
open Go.RowKit
section
variable {b:Nat}{tv wv:Value}{l:List Tok}{wl:List Bs}
abbrev but(w:World)(L:Nat):Nat→Prop:=fun g=>w.heap.size<g∧g≠L
structure Kept(b:Nat)(tv wv:Value)(l:List Tok)(wl:List Bs)(w:World)(L:Nat)(wr:World)(x:Ex)(pa:Option Addr)(pc:Nat)(la:Option Addr)(lc:Nat)(j:Nat):Prop where
 par:Par wr b tv wv l wl j
 blk:Blk wr L (hdC x.h (.slice pa x.h.p.length pc) (.slice la x.kids.len lc)) 27
 rp:Cells wr (.slice pa x.h.p.length pc) 1 x.h.p.length (x.h.p.map str) (but w L)
 rl:RepL (but w L) wr (.slice la x.kids.len lc) x.kids
 gr:w.grownBy wr (some b)
 bL:b<L
 wL:w.heap.size<L
 zero:Blk wr w.heap.size zeroE 27
variable {w wr w1:World}{L j k:Nat}{x y z:Ex}{pa la ya ma:Option Addr}{pc lc yc mc:Nat}
theorem Kept.gb(h:Kept b tv wv l wl w L wr x pa pc la lc j)(hb:b<w.heap.size)(g:wr.grownBy w1 (some b))(hp:Par w1 b tv wv l wl k):Kept b tv wv l wl w L w1 x pa pc la lc k:=
 ⟨hp,h.blk.gb g (by have:=h.bL;simp;omega),h.rp.gb g (by intro q hq _ e;cases e;have:=hq.1;omega),h.rl.gb g (by intro q hq _ e;cases e;have:=hq.1;omega),Aa h.gr g,h.bL,h.wL,h.zero.gb g (by simp;omega)⟩
theorem Kept.gbN(h:Kept b tv wv l wl w L wr x pa pc la lc j)(hb:b<w.heap.size)(g:wr.grownBy w1 none):Kept b tv wv l wl w L w1 x pa pc la lc j:=
 h.gb hb (AU g) (h.par.gbN g)
theorem Kept.two(h:Kept b tv wv l wl w L wr x pa pc la lc j)(hb:b<w.heap.size)(op:Int)(s:Bs)(zp:Cells wr (.slice ya z.h.p.length yc) 1 z.h.p.length (z.h.p.map str) (but w L))(zl:RepL (but w L) wr (.slice ma z.kids.len mc) z.kids):
 Kept b tv wv l wl w L ((set7 wr L (.int .i64 op) (str s) (.int .i64 0) (.int .i64 0) (str []) (.slice none 0 0) (.slice (some ⟨wr.heap.size,0,none⟩) 2 2)).alloc (.cells (hdC x.h (.slice pa x.h.p.length pc) (.slice la x.kids.len lc)++hdC z.h (.slice ya z.h.p.length yc) (.slice ma z.kids.len mc)).toArray 27 (0,0)))
  ⟨hd0 op s,.two x z⟩ none 0 (some ⟨wr.heap.size,0,none⟩) 2 j:=by
 have g7:=Ag wr L (.int .i64 op) (str s) (.int .i64 0) (.int .i64 0) (str []) (.slice none 0 0) (.slice (some ⟨wr.heap.size,0,none⟩) 2 2);have hsz:(set7 wr L (.int .i64 op) (str s) (.int .i64 0) (.int .i64 0) (str []) (.slice none 0 0) (.slice (some ⟨wr.heap.size,0,none⟩) 2 2)).heap.size=wr.heap.size:=by simp[set7]
 have hbL:=h.bL;have hwL:=h.wL;have hlt:=h.blk.lt;have hk:∀q,but w L q→q<wr.heap.size→some q≠some L:=fun q hq _ e=>by cases e;exact hq.2 rfl
 refine⟨(h.par.gb g7 (by intro q e;cases e;exact hbL)).alloc _,((h.blk.set7 _ _ _ _ _ _ _).of_eq rfl rfl).alloc _,Cells.nil _ 1 _,?_,Ad (Ar h.gr g7 (.inr (by omega))) _,hbL,hwL,?_⟩
 ·exact RepL.two hsz.symm ⟨by omega,by omega⟩ (h.rp.gb g7 hk) (h.rl.gb g7 hk) (zp.gb g7 hk) (zl.gb g7 hk)
 ·exact(h.zero.gb g7 (by simp;omega)).alloc _
def IdxR(l:List Tok)(wl:List Bs)(E:Nat→Res Ex)(b:Nat)(tv wv:Value)(w:World)(L:Nat)(r:Res Ex)(m:Nat)(wr:World):Prop:=
 ∃x pa pc la lc j,Kept b tv wv l wl w L wr x pa pc la lc j∧B4 l E m x j=r
theorem O9{E prim:Nat→Res Ex}(hE:CE 67 b tv wv l wl E)(hP:CE 278 b tv wv l wl prim):∀m,CE 244 b tv wv l wl (Bi l E prim m):=by
 intro m;induction m with
 |zero=>intro w i h ho;exact absurd rfl ho
 |succ m ih=>
 intro w i h ho;have hb:=h.lt;have gz:w.grownBy (w.alloc (.cells zeroE.toArray 27 (0,0))) (some b):=Ad (Ac _ _) _;have hz:=Blk.new w zeroE 27;have hp:=h.alloc (.cells zeroE.toArray 27 (0,0));by_cases hn1:Ae (Ab l i) [45]=true
 ·have H:=O (Z ih ho);have HN:=O (Z True.intro hn1);generalize hR:Bi l E prim (m+1) i=R at*;have hR':(Bi l E prim m (i+1)).bind (fun x j=> .ok (unE [45] x) j)=R:=by rw[←hR];simp[Bi,hn1]
  have HR:=O hR';clear hR hR' hn1 hE hP ih ho;go_enter func244,ntmps244;go_wp2_with fail;refine(Bw hp _ HN.out.2).mono ?_;rintro e wb ⟨rfl,h0,gb⟩;have g0:w.grownBy wb (some b):=Aa gz gb;have hB:=Blk.gb hz gb (by simp;omega);have hw0:w.heap.size<wb.heap.size:=by have:=gb.size;simp at*;omega
  clear hz hp gb gz;go_wp2_with fail;refine(H.out.1 _ _ h0 (fun e=>H.out.2 (by rw[←HR.out,e];rfl))).mono ?_;rintro e w1 ⟨g1,h1⟩;cases ho:Bi l E prim m (i+1)with
  |out=>rw[ho]at h1;exact h1.elim
  | bad q=>
    rw[ho]at h1;subst h1;exact⟨rfl,Post.bad (Aa g0 g1) (by rw[←HR.out,ho];rfl)⟩
  | ok x j=>
    rw[ho]at h1;obtain⟨v,rfl,⟨pa,pc,la,lc,rfl,rp,rl⟩,h1⟩:=h1;have hs1:=g1.size;have hb1:=h1.lt;have hlt1:w.heap.size<w1.heap.size:=by omega
    have hZ:=hB.gb g1 (by simp;omega);have hQ:R= .ok (unE [45] x) j:=by rw[←HR.out,ho];rfl
    have H2:=O (Z rp (Z rl hQ));clear rp rl hQ hB h0;obtain⟨cz_0,cz_1,cz_2,cz_3,cz_4,cz_5,cz_6,cz_f⟩:=(hZ).c7;go_wp2;obtain⟨rp,rl,hQ⟩:=H2.out;have g7:=Ag w1 w.heap.size (.int .i64 4) (str [45]) (.int .i64 0) (.int .i64 0) (str []) (.slice none 0 0) (.slice (some ⟨w1.heap.size,0,none⟩) 1 1);have hW:=hZ.set7 (.int .i64 4) (str [45]) (.int .i64 0) (.int .i64 0) (str []) (.slice none 0 0) (.slice (some ⟨w1.heap.size,0,none⟩) 1 1);have hsz:(set7 w1 w.heap.size (.int .i64 4) (str [45]) (.int .i64 0) (.int .i64 0) (str []) (.slice none 0 0) (.slice (some ⟨w1.heap.size,0,none⟩) 1 1)).heap.size=w1.heap.size:=by simp[set7]
    simp only[set7]at hW g7 hsz;generalize(((((((w1.setCell {block:=w.heap.size,off:=0} (.int .i64 4)).setCell {block:=w.heap.size,off:=1} (str [45])).setCell {block:=w.heap.size,off:=2} (.int .i64 0)).setCell {block:=w.heap.size,off:=3} (.int .i64 0)).setCell {block:=w.heap.size,off:=4} (str [])).setCell {block:=w.heap.size,off:=5} (.slice none 0 0)).setCell {block:=w.heap.size,off:=6} (.slice (some ⟨w1.heap.size,0,none⟩) 1 1))=W at*;exact bodyPost_ret (Ai (hd:=hd0 4 [45]) (pv:= .slice none 0 0) (lv:= .slice (some ⟨w1.heap.size,0,none⟩) 1 1) rfl _ (Blk.alloc hW (Obj.cells #[Value.int IntKind.i64 x.h.op,str x.h.s,Value.int IntKind.i64 x.h.vk,Value.int IntKind.i64 x.h.vn,str x.h.vs,Value.slice pa x.h.p.length pc,Value.slice la x.kids.len lc] 27)) rfl) rfl (En (op:=4) (s:=[45]) hb hQ (Aa g0 g1) rp rl (by intro q hq;have:(wb).heap.size≤q:=hq;omega) h1 g7 hsz)
 have hn1':Ae (Ab l i) [45]=false:=by simpa using hn1
 have H:=O (Z hE (Z hP ho));have HN:=O hn1';generalize hR:Bi l E prim (m+1) i=R at*;have hR':(prim i).bind (fun x j=>B4 l E m x j)=R:=by rw[←hR];simp[Bi,hn1']
 have HR:=O hR';clear hR hR' hn1 hn1' hE hP ih ho;go_enter func244,ntmps244;go_wp2_with fail;refine(Bo hp _ HN.out).mono ?_;rintro e wb ⟨rfl,gb⟩;have h0:=hp.gbN gb;have g0:w.grownBy wb (some b):=Ah gz gb;have hB:=Blk.gb hz gb (by simp);have hw0:w.heap.size<wb.heap.size:=by have:=gb.size;simp at*;omega
 clear hz hp gb gz;go_wp2_with fail;refine(H.out.2.1 _ _ h0 (fun e=>H.out.2.2 (by rw[←HR.out,e];rfl))).mono ?_;rintro e w1 ⟨g1,h1⟩;cases ho:prim i with
 |out=>rw[ho]at h1;exact h1.elim
 | bad q=>
   rw[ho]at h1;subst h1;exact⟨rfl,Post.bad (Aa g0 g1) (by rw[←HR.out,ho];rfl)⟩
 | ok x j=>
   rw[ho]at h1;obtain⟨v,rfl,⟨pa,pc,la,lc,rfl,rp,rl⟩,h1⟩:=h1;have hs1:=g1.size;have hb1:=h1.lt;have HQ:=O (show B4 l E m x j=R by rw[←HR.out,ho];rfl);have hK:Kept b tv wv l wl w w1.heap.size (w1.alloc (.cells (hdC x.h (.slice pa x.h.p.length pc) (.slice la x.kids.len lc)).toArray 27 (0,0))) x pa pc la lc j:=by
    have g:=World.grownBy_alloc w1 (.cells (hdC x.h (.slice pa x.h.p.length pc) (.slice la x.kids.len lc)).toArray 27 (0,0)) none;refine⟨h1.alloc _,Blk.new w1 _ _,(rp.mono ?_).gb g (by simp),(rl.mono ?_).gb g (by simp),Ad (Aa g0 g1) _,hb1,by omega,((hB.gb g1 (by simp;omega))).alloc _⟩;all_goals
     intro q hq hq2;have:wb.heap.size≤q:=hq;exact⟨by omega,by omega⟩
   have HK:=O hK;clear hK rp rl ho HR h1 hB g1 g0 h0;go_wp2_with fail;go_loopg [] m (fun n wr=>IdxR l wl E b tv wv w w1.heap.size R n wr)
   case atStart=>exact⟨x,pa,pc,la,lc,j,HK.out,HQ.out⟩
   case round=>
    obtain⟨y,ya,yc,ma,mc,q,hk,hloop⟩:=hrel;clear HQ HK;have hp:=hk.par;cases gk with
    |zero=>exact absurd hloop.symm H.out.2.2
    |succ n=>
    cases hs:Ae (Ab l q) [91]with
    | false=>
      have HQ:=O (show R= .ok y q by rw[←hloop];simp[B4,hs]);have HS:=O hs;have HK:=O hk;clear hloop hs hk;go_wp2_with fail;refine(Bo hp _ HS.out).mono ?_;rintro e w2 ⟨rfl,g2⟩;have hk:=HK.out.gbN hb g2;have hL:=hk.blk;have hZ:=hk.zero;have hwL:=hk.wL;have HK2:=O hk;clear HK hk hp g2;obtain⟨cl_0,cl_1,cl_2,cl_3,cl_4,cl_5,cl_6,cl_f⟩:=(hL).c7;obtain⟨cz_0,cz_1,cz_2,cz_3,cz_4,cz_5,cz_6,cz_f⟩:=(hZ).c7;go_wp2;have hk:=HK2.out;have g7:=Ag w2 w.heap.size (.int .i64 y.h.op) (str y.h.s) (.int .i64 y.h.vk) (.int .i64 y.h.vn) (str y.h.vs) (.slice ya y.h.p.length yc) (.slice ma y.kids.len mc);exact bodyPost_ret (Ai rfl _ (hZ.set7 _ _ _ _ _ _ _) rfl) rfl (Bg hb HQ.out hk.gr ⟨_,_,_,_,rfl,hk.rp,hk.rl⟩ (by intro k hk;exact hk.1) hk.par g7)
    | true=>
      have HQ:=O (show(E (q+1)).bind (fun z j=>(Ba l [93] j).bind fun _ k=>B4 l E n (Ct y z) k)=R by rw[←hloop];simp[B4,hs]);have HS:=O hs;have HK:=O hk;clear hloop hs hk;go_wp2_with fail;refine(Bw hp _ HS.out).mono ?_;rintro e w2 ⟨rfl,h2,g2⟩;have hk:=HK.out.gb hb g2 h2;have hL:=hk.blk;have hwL:=hk.wL;have hbL:=hk.bL;have HK2:=O hk;clear HK hk hp g2;obtain⟨cl_0,cl_1,cl_2,cl_3,cl_4,cl_5,cl_6,cl_f⟩:=(hL).c7;have hLb:=hL.lt;cases ho2:E (q+1)with
      |out=>exact absurd (show R= .out by rw[←HQ.out,ho2];rfl) H.out.2.2
      | bad z=>
        go_wp2_with fail;go_region_with(go_at_call 67;refine(H.out.1 _ _ (h2.gbN (Am (Ac _ _))) (by rw[ho2];simp)).mono ?_;rintro e w4 ⟨g4,h4⟩;rw[ho2]at h4;subst h4;refine Fp (P:=Tryz.prog) ⟨rfl,Post.bad (Aa (Am HK2.out.gr) g4) (by rw[←HQ.out,ho2];rfl)⟩ ⟨#[],[]⟩ w4 ?_);all_goals trivial
      | ok z p=>
        go_wp2_with fail;go_region_with(go_at_call 67;refine(H.out.1 _ _ (h2.gbN (Am (Ac _ _))) (by rw[ho2];simp)).mono ?_;rintro e w4 ⟨g4,h4⟩;rw[ho2]at h4;obtain⟨v,rfl,⟨za,zc,na,nc,rfl,zp,zl⟩,h4⟩:=h4;have hk4:=HK2.out.gb hb (Aa (Am (Ac _ _)) g4) h4;have hL4:=hk4.blk;have hlt4:=hL4.lt;have HZ:=O (Z hk4 (Z zp zl));clear hk4 zp zl;obtain⟨dl_0,dl_1,dl_2,dl_3,dl_4,dl_5,dl_6,dl_f⟩:=(hL4).c7);all_goals
         have hin:∀g,w2.heap.size≤g→but w w1.heap.size g:=fun g hg=>⟨by omega,by omega⟩;have hK5:=HZ.out.1.two hb 6 [] (z:=z) (HZ.out.2.1.mono fun g hg _=>hin g hg) (HZ.out.2.2.mono fun g hg _=>hin g hg);have HQ2:=O (show(Ba l [93] p).bind (fun _ k=>B4 l E n (Ct y z) k)=R by rw[←HQ.out,ho2];rfl);clear HZ HK2 cl_0 cl_1 cl_2 cl_3 cl_4 cl_5 cl_6 cl_f dl_0 dl_1 dl_2 dl_3 dl_4 dl_5 dl_6 dl_f hL hL4 HQ ho2 h4 h2;go_wp2_with fail;refine(Cx hK5.par [93]).mono ?_;rintro e w6 ⟨g6,h6⟩;cases hw:Ba l [93] p with
         |out=>rw[hw]at h6;exact h6.elim
         | bad f=>
           rw[hw]at h6;subst h6;exact⟨rfl,Post.bad (Aa hK5.gr g6) (by rw[←HQ2.out,hw];rfl)⟩
         | ok _ f=>
           rw[hw]at h6;obtain⟨v,rfl,rfl,h6⟩:=h6;have HQ3:=O (show B4 l E n (Ct y z) f=R by rw[←HQ2.out,hw];rfl);clear HQ2 hw;go_wp2_with fail;go_roundg n
           case measure=>omega
           case rel=>exact⟨Ct y z,none,0,_,2,f,hK5.gb hb g6 h6,HQ3.out⟩
end
section
variable {b:Nat}{tv wv:Value}{l:List Tok}{wl:List Bs}
theorem Post.split{w w':World}{α:Type}{V:World→Value→α→Prop}{r:Res α}{e:Ending}(h:Post b tv wv l wl w V r e w'):
 w.grownBy w' (some b)∧((∃q,r= .bad q∧e= .panicked (ER q))∨∃x j v,r= .ok x j∧e= .returned v∧V w' v x∧Par w' b tv wv l wl j):=by
 obtain⟨g,h⟩:=h;cases r with
 |out=>exact h.elim
 |bad q=>exact⟨g,.inl ⟨q,rfl,h⟩⟩
 | ok x j=>
   obtain⟨v,h1,h2,h3⟩:=h;exact⟨g,.inr ⟨x,j,v,rfl,h1,h2,h3⟩⟩
variable {w wr w1:World}{L j k:Nat}{x y z:Ex}{pa la ya ma:Option Addr}{pc lc yc mc:Nat}
theorem Kept.new(hb:b<w.heap.size)(gr:w.grownBy wr (some b))(hz:Blk wr w.heap.size zeroE 27)(hp:Par wr b tv wv l wl j)
 (rp:Cells wr (.slice pa x.h.p.length pc) 1 x.h.p.length (x.h.p.map str) (fun g=>w.heap.size<g)) (rl:RepL (fun g=>w.heap.size<g) wr (.slice la x.kids.len lc) x.kids) {n:Nat} (hn:n=wr.heap.size):
 Kept b tv wv l wl w n (wr.alloc (.cells (hdC x.h (.slice pa x.h.p.length pc) (.slice la x.kids.len lc)).toArray 27 (0,0))) x pa pc la lc j:=by
 subst hn;have g:=World.grownBy_alloc wr (.cells (hdC x.h (.slice pa x.h.p.length pc) (.slice la x.kids.len lc)).toArray 27 (0,0)) none;have hz1:=hz.lt;have hp1:=hp.lt;refine⟨hp.alloc _,Blk.new wr _ _,(rp.mono ?_).gb g (by simp),(rl.mono ?_).gb g (by simp),Ad gr _,hp1,hz1,hz.alloc _⟩;all_goals
  intro q hq hq2;exact⟨hq,by omega⟩
theorem Kept.leaf(hb:b<w.heap.size)(gr:w.grownBy wr (some b))(hz:Blk wr w.heap.size zeroE 27)(hp:Par wr b tv wv l wl j)(op:Int)(s:Bs){n:Nat}(hn:n=wr.heap.size):
 Kept b tv wv l wl w n (wr.alloc (.cells (hdC (hd0 op s) (.slice none 0 0) (.slice none 0 0)).toArray 27 (0,0))) ⟨hd0 op s,.nil⟩ none 0 none 0 j:=
 Kept.new (x:=⟨hd0 op s,.nil⟩) (pa:=none) (pc:=0) (la:=none) (lc:=0) hb gr hz hp (Cells.nil _ _ _) (RepL.nil _ _) hn
theorem Kept.one(hb:b<w.heap.size)(gr:w.grownBy wr (some b))(hz:Blk wr w.heap.size zeroE 27)(hp:Par wr b tv wv l wl j)(op:Int)(s:Bs)
 (zp:Cells wr (.slice ya z.h.p.length yc) 1 z.h.p.length (z.h.p.map str) (fun g=>w.heap.size<g)) (zl:RepL (fun g=>w.heap.size<g) wr (.slice ma z.kids.len mc) z.kids):
 Kept b tv wv l wl w (wr.heap.size+1) ((wr.alloc (.cells (hdC z.h (.slice ya z.h.p.length yc) (.slice ma z.kids.len mc)).toArray 27 (0,0))).alloc (.cells (hdC (hd0 op s) (.slice none 0 0) (.slice (some ⟨wr.heap.size,0,none⟩) 1 1)).toArray 27 (0,0)))
  ⟨hd0 op s,.one z⟩ none 0 (some ⟨wr.heap.size,0,none⟩) 1 j:=
 Kept.new (x:=⟨hd0 op s,.one z⟩) (pa:=none) (pc:=0) (lc:=1) hb (Ad gr _) (hz.alloc _) (hp.alloc _) (Cells.nil _ _ _) (RepL.one rfl (by have:=hz.lt;show w.heap.size<_;omega) zp zl) (by simp)
theorem Kept.kid1(h:Kept b tv wv l wl w L wr x pa pc la lc j)(hb:b<w.heap.size)(zp:Cells wr (.slice ya z.h.p.length yc) 1 z.h.p.length (z.h.p.map str) (but w L))(zl:RepL (but w L) wr (.slice ma z.kids.len mc) z.kids):
 Kept b tv wv l wl w L ((wr.setCell ⟨L,6,none⟩ (.slice (some ⟨wr.heap.size,0,none⟩) 1 1)).alloc (.cells (hdC z.h (.slice ya z.h.p.length yc) (.slice ma z.kids.len mc)).toArray 27 (0,0)))
  ⟨x.h,.one z⟩ pa pc (some ⟨wr.heap.size,0,none⟩) 1 j:=by
 have g7:wr.grownBy (wr.setCell ⟨L,6,none⟩ (.slice (some ⟨wr.heap.size,0,none⟩) 1 1)) (some L):=Ay (Ac _ _) _ _ (.inl rfl);have hsz:(wr.setCell ⟨L,6,none⟩ (.slice (some ⟨wr.heap.size,0,none⟩) 1 1)).heap.size=wr.heap.size:=by simp
 have hbL:=h.bL;have hwL:=h.wL;have hlt:=h.blk.lt;have hk:∀q,but w L q→q<wr.heap.size→some q≠some L:=fun q hq _ e=>by cases e;exact hq.2 rfl
 exact⟨(h.par.gb g7 (by intro q e;cases e;exact hbL)).alloc _,((h.blk.set 6 _).of_eq rfl rfl).alloc _,(h.rp.gb g7 hk).gb (World.grownBy_alloc _ _ none) (by simp),RepL.one hsz.symm ⟨by omega,by omega⟩ (zp.gb g7 hk) (zl.gb g7 hk),Ad (Ar h.gr g7 (.inr (by omega))) _,hbL,hwL,(h.zero.gb g7 (by simp;omega)).alloc _⟩
theorem GB{L:Nat}(i:Nat)(v:Value):wr.grownBy (wr.setCell ⟨L,i,none⟩ v) (some L):=Ay (Ac _ _) _ _ (.inl rfl)
theorem Kept.kids(h:Kept b tv wv l wl w L wr x pa pc la lc j)(hb:b<w.heap.size){f:Fo}(rl:RepL (but w L) wr (.slice ma f.len mc) f):
 Kept b tv wv l wl w L (wr.setCell ⟨L,6,none⟩ (.slice ma f.len mc)) ⟨x.h,f⟩ pa pc ma mc j:=by
 have g7:wr.grownBy (wr.setCell ⟨L,6,none⟩ (.slice ma f.len mc)) (some L):=GB 6 _;have hbL:=h.bL;have hwL:=h.wL;have hlt:=h.blk.lt;have hk:∀q,but w L q→q<wr.heap.size→some q≠some L:=fun q hq _ e=>by cases e;exact hq.2 rfl
 exact⟨h.par.gb g7 (by intro q e;cases e;exact hbL),(h.blk.set 6 _).of_eq rfl rfl,h.rp.gb g7 hk,rl.gb g7 hk,Ar h.gr g7 (.inr (by omega)),hbL,hwL,h.zero.gb g7 (by simp;omega)⟩
theorem Kept.names(h:Kept b tv wv l wl w L wr x pa pc la lc j)(hb:b<w.heap.size){p:List Bs}(rp:Cells wr (.slice ma p.length mc) 1 p.length (p.map str) (but w L)):
 Kept b tv wv l wl w L (wr.setCell ⟨L,5,none⟩ (.slice ma p.length mc)) ⟨{x.h with p:=p},x.kids⟩ ma mc la lc j:=by
 have g7:wr.grownBy (wr.setCell ⟨L,5,none⟩ (.slice ma p.length mc)) (some L):=GB 5 _;have hbL:=h.bL;have hwL:=h.wL;have hlt:=h.blk.lt;have hk:∀q,but w L q→q<wr.heap.size→some q≠some L:=fun q hq _ e=>by cases e;exact hq.2 rfl
 exact⟨h.par.gb g7 (by intro q e;cases e;exact hbL),(h.blk.set 5 _).of_eq rfl rfl,rp.gb g7 hk,h.rl.gb g7 hk,Ar h.gr g7 (.inr (by omega)),hbL,hwL,h.zero.gb g7 (by simp;omega)⟩
theorem Kept.op(h:Kept b tv wv l wl w L wr x pa pc la lc j)(hb:b<w.heap.size)(op:Int):
 Kept b tv wv l wl w L (wr.setCell ⟨L,0,none⟩ (.int .i64 op)) ⟨{x.h with op:=op},x.kids⟩ pa pc la lc j:=by
 have g7:wr.grownBy (wr.setCell ⟨L,0,none⟩ (.int .i64 op)) (some L):=GB 0 _;have hbL:=h.bL;have hwL:=h.wL;have hlt:=h.blk.lt;have hk:∀q,but w L q→q<wr.heap.size→some q≠some L:=fun q hq _ e=>by cases e;exact hq.2 rfl
 exact⟨h.par.gb g7 (by intro q e;cases e;exact hbL),(h.blk.set 0 _).of_eq rfl rfl,h.rp.gb g7 hk,h.rl.gb g7 hk,Ar h.gr g7 (.inr (by omega)),hbL,hwL,h.zero.gb g7 (by simp;omega)⟩
theorem PM{E:Nat→Res Ex}(hE:CE 67 b tv wv l wl E)(hgo:DS E)(hl:C1 l)(n:Nat):CE 221 b tv wv l wl (Cs l E n):=by
 intro w i hp ho;have hb:=hp.lt;have gr:w.grownBy (w.alloc (.cells zeroE.toArray 27 (0,0))) (some b):=Ad (Ac _ _) _;have hz:=Blk.new w zeroE 27;replace hp:=hp.alloc (.cells zeroE.toArray 27 (0,0));have H:=O (Z hE (Z hgo (Z hl ho)));generalize hR:Cs l E n i=R at*;have HQ:=O hR;rw[Cs]at HQ;clear hE hgo hl ho hR;go_enter func221,ntmps221;go_wp2_with fail;refine(Dm hp H.out.2.2.1).mono ?_;intro e w1 hq;obtain⟨g,⟨q,hr,rfl⟩| ⟨s,j,v,hr,rfl,rfl,hp⟩⟩:=hq.split
 ·exact⟨rfl,Post.bad (Aa gr g) (by rw[←HQ.out,hr];rfl)⟩
 replace gr:=Aa gr g;replace HQ:=HQr HQ (by rw[hr,Res.bind_ok]);clear hr;have hk:=Kept.leaf hb gr (hz.gb g (by simp;omega)) hp 3 s rfl;have HK:=O hk;have hs1:=hk.blk.lt;clear hk g hz;go_wp2_with fail;replace gr:=HK.out.gr;refine(Cx HK.out.par [40]).mono ?_;intro e w2 hq;obtain⟨g,⟨q,hr,rfl⟩| ⟨_,j2,v,hr,rfl,rfl,hp⟩⟩:=hq.split
 ·exact⟨rfl,Post.bad (Aa gr g) (by rw[←HQ.out,hr];rfl)⟩
 replace gr:=Aa gr g;replace HQ:=HQr HQ (by rw[hr,Res.bind_ok]);clear hr;have hk:=HK.out.gb hb g hp;cases hs:Ae (Ab l j2) [41]with
 | true=>
   replace HQ:=HQr HQ (by rw[if_pos hs]);go_wp2_with fail;refine(Bw hp _ hs).mono ?_;rintro e w3 ⟨rfl,hp,g⟩;replace hk:=hk.gb hb g hp;have hL:=hk.blk;have hZ:=hk.zero;have hwL:=hk.wL;have HK:=O hk;clear hk hp;obtain⟨cl_0,cl_1,cl_2,cl_3,cl_4,cl_5,cl_6,cl_f⟩:=(hL).c7;obtain⟨cz_0,cz_1,cz_2,cz_3,cz_4,cz_5,cz_6,cz_f⟩:=(hZ).c7;go_wp2;have hk:=HK.out;exact bodyPost_ret (Ai rfl _ (hZ.set7 _ _ _ _ _ _ _) rfl) rfl (Bg hb HQ.out.symm hk.gr ⟨_,_,_,_,rfl,hk.rp,hk.rl⟩ (by intro k hk;exact hk.1) hk.par (Ag _ _ _ _ _ _ _ _ _))
 | false=>
   replace HQ:=HQr HQ (by rw[if_neg (ne_true_of_eq_false hs)]);go_wp2_with fail;refine(Bo hp _ hs).mono ?_;rintro e w3 ⟨rfl,g⟩;replace hk:=hk.gbN hb g;replace hp:=hk.par;replace gr:=hk.gr;have hlt:=hk.blk.lt;have hwL:=hk.wL;go_wp2_with fail;refine(Jd H.out.1 H.out.2.1 hp n (fun e=>H.out.2.2.2 (by rw[←HQ.out,e];rfl))).mono ?_;intro e w4 hq;obtain⟨g,⟨q,hr,rfl⟩| ⟨f,j3,v,hr,rfl,⟨ma,mc,rfl,rl⟩,hp⟩⟩:=hq.split
   ·exact⟨rfl,Post.bad (Aa gr g) (by rw[←HQ.out,hr];rfl)⟩
   replace gr:=Aa gr g;replace HQ:=HQr HQ (by rw[hr,Res.bind_ok]);clear hr;replace hk:=hk.gb hb g hp;have hk2:=hk.kids hb (rl.mono fun g hg _=>(⟨by have:w3.heap.size≤g:=hg;omega,by have:w3.heap.size≤g:=hg;omega⟩:but w w1.heap.size g));have hL:=hk.blk;obtain⟨cl_0,cl_1,cl_2,cl_3,cl_4,cl_5,cl_6,cl_f⟩:=(hL).c7;clear hk rl;go_wp2_with fail;replace gr:=hk2.gr;refine(Cx hk2.par [41]).mono ?_;intro e w5 hq;obtain⟨g,⟨q,hr,rfl⟩| ⟨_,j4,v,hr,rfl,rfl,hp⟩⟩:=hq.split
   ·exact⟨rfl,Post.bad (Aa gr g) (by rw[←HQ.out,hr];rfl)⟩
   replace gr:=Aa gr g;replace HQ:=HQr HQ (by rw[hr,Res.bind_ok]);clear hr;have hk:=hk2.gb hb g hp;clear cl_0 cl_1 cl_2 cl_3 cl_4 cl_5 cl_6 cl_f hk2 hL g;have hL:=hk.blk;have hZ:=hk.zero;have hwL:=hk.wL;have HK:=O hk;clear hk hp;obtain⟨cl_0,cl_1,cl_2,cl_3,cl_4,cl_5,cl_6,cl_f⟩:=(hL).c7;obtain⟨cz_0,cz_1,cz_2,cz_3,cz_4,cz_5,cz_6,cz_f⟩:=(hZ).c7;go_wp2;have hk:=HK.out;exact bodyPost_ret (Ai rfl _ (hZ.set7 _ _ _ _ _ _ _) rfl) rfl (Bg hb HQ.out.symm hk.gr ⟨_,_,_,_,rfl,hk.rp,hk.rl⟩ (by intro k hk;exact hk.1) hk.par (Ag _ _ _ _ _ _ _ _ _))
theorem I1{E:Nat→Res Ex}(hE:CE 67 b tv wv l wl E)(hl:C1 l):CE 258 b tv wv l wl (Cb l E):=by
 intro w i hp ho;have hb:=hp.lt;have gr:w.grownBy (w.alloc (.cells zeroE.toArray 27 (0,0))) (some b):=Ad (Ac _ _) _;have hz:=Blk.new w zeroE 27;replace hp:=hp.alloc (.cells zeroE.toArray 27 (0,0));have H:=O (Z hE (Z hl ho));generalize hR:Cb l E i=R at*;have HQ:=O hR;rw[Cb]at HQ;clear hE hl ho hR;go_enter func258,ntmps258;go_wp2_with fail;refine(Cx hp [38]).mono ?_;intro e w1 hq;obtain⟨g,⟨q,hr,rfl⟩| ⟨_,j,v,hr,rfl,rfl,hp⟩⟩:=hq.split
 ·exact⟨rfl,Post.bad (Aa gr g) (by rw[←HQ.out,hr];rfl)⟩
 replace gr:=Aa gr g;replace HQ:=HQr HQ (by rw[hr,Res.bind_ok]);clear hr;replace hz:=hz.gb g (by simp;omega);cases hs:Ae (Ab l j) [40]with
 | true=>
   replace HQ:=HQr HQ (by rw[if_pos hs]);go_wp2_with fail;refine(Bw hp _ hs).mono ?_;rintro e w2 ⟨rfl,hp,g⟩;replace hz:=hz.gb g (by simp;omega);replace gr:=Aa gr g;have hs2:=hz.lt;clear g;go_wp2_with fail;refine(H.out.1 _ _ hp (fun e=>H.out.2.2 (by rw[←HQ.out,e];rfl))).mono ?_;intro e w3 hq;obtain⟨g,⟨q,hr,rfl⟩| ⟨x,j2,v,hr,rfl,⟨pa,pc,la,lc,rfl,rp,rl⟩,hp⟩⟩:=hq.split
   ·exact⟨rfl,Post.bad (Aa gr g) (by rw[←HQ.out,hr];rfl)⟩
   replace gr:=Aa gr g;replace HQ:=HQr HQ (by rw[hr,Res.bind_ok]);clear hr;replace hz:=hz.gb g (by simp;omega);have hk:=Kept.one hb gr hz hp 9 [] (rp.mono fun g hg _=>by have:w2.heap.size≤g:=hg;show w.heap.size<g;omega) (rl.mono fun g hg _=>by have:w2.heap.size≤g:=hg;show w.heap.size<g;omega);clear rp rl hz g;go_wp2_with fail;replace gr:=hk.gr;refine(Cx hk.par [41]).mono ?_;intro e w4 hq;obtain⟨g,⟨q,hr,rfl⟩| ⟨_,j3,v,hr,rfl,rfl,hp⟩⟩:=hq.split
   ·exact⟨rfl,Post.bad (Aa gr g) (by rw[←HQ.out,hr];rfl)⟩
   replace gr:=Aa gr g;replace HQ:=HQr HQ (by rw[hr,Res.bind_ok]);clear hr;replace hk:=hk.gb hb g hp;clear g;have hL:=hk.blk;have hZ:=hk.zero;have hwL:=hk.wL;have HK:=O hk;clear hk hp;obtain⟨cl_0,cl_1,cl_2,cl_3,cl_4,cl_5,cl_6,cl_f⟩:=(hL).c7;obtain⟨cz_0,cz_1,cz_2,cz_3,cz_4,cz_5,cz_6,cz_f⟩:=(hZ).c7;go_wp2;have hk:=HK.out;exact bodyPost_ret (Ai rfl _ (hZ.set7 _ _ _ _ _ _ _) rfl) rfl (Bg hb HQ.out.symm hk.gr ⟨_,_,_,_,rfl,hk.rp,hk.rl⟩ (by intro k hk;exact hk.1) hk.par (Ag _ _ _ _ _ _ _ _ _))
 | false=>
   replace HQ:=HQr HQ (by rw[if_neg (ne_true_of_eq_false hs)]);go_wp2_with fail;refine(Bo hp _ hs).mono ?_;rintro e w2 ⟨rfl,g⟩;replace hz:=hz.gb g (by simp);replace gr:=Ah gr g;replace hp:=hp.gbN g;clear g;go_wp2_with fail;refine(Dm hp H.out.2.1).mono ?_;intro e w3 hq;obtain⟨g,⟨q,hr,rfl⟩| ⟨s,j2,v,hr,rfl,rfl,hp⟩⟩:=hq.split
   ·exact⟨rfl,Post.bad (Aa gr g) (by rw[←HQ.out,hr];rfl)⟩
   replace gr:=Aa gr g;replace HQ:=HQr HQ (by rw[hr,Res.bind_ok]);clear hr;replace hz:=hz.gb g (by simp;omega);have hk:=Kept.leaf hb gr hz hp 9 s rfl;clear hz g;have hs3:=hk.blk.lt;cases hs:Ae (Ab l j2) [46]with
   | true=>
     replace HQ:=HQr HQ (by rw[if_pos hs]);go_wp2_with fail;refine(Bw hk.par _ hs).mono ?_;rintro e w4 ⟨rfl,hp,g⟩;replace hk:=hk.gb hb g hp;have hL:=hk.blk;have hZ:=hk.zero;have hwL:=hk.wL;have HK:=O hk;clear hk hp;obtain⟨cl_0,cl_1,cl_2,cl_3,cl_4,cl_5,cl_6,cl_f⟩:=(hL).c7;obtain⟨cz_0,cz_1,cz_2,cz_3,cz_4,cz_5,cz_6,cz_f⟩:=(hZ).c7;go_wp2;have hk:=HK.out;exact bodyPost_ret (Ai rfl _ (hZ.set7 _ _ _ _ _ _ _) rfl) rfl (Bg hb HQ.out.symm hk.gr ⟨_,_,_,_,rfl,hk.rp,hk.rl⟩ (by intro k hk;exact hk.1) hk.par (Ag _ _ _ _ _ _ _ _ _))
   | false=>
     replace HQ:=HQr HQ (by rw[if_neg (ne_true_of_eq_false hs)]);go_wp2_with fail;refine(Bo hk.par _ hs).mono ?_;rintro e w4 ⟨rfl,g⟩;replace hk:=hk.gbN hb g;have hL:=hk.blk;have hZ:=hk.zero;have hwL:=hk.wL;have HK:=O hk;clear hk hp;obtain⟨cl_0,cl_1,cl_2,cl_3,cl_4,cl_5,cl_6,cl_f⟩:=(hL).c7;obtain⟨cz_0,cz_1,cz_2,cz_3,cz_4,cz_5,cz_6,cz_f⟩:=(hZ).c7;go_wp2;have hk:=HK.out;exact bodyPost_ret (Ai rfl _ (hZ.set7 _ _ _ _ _ _ _) rfl) rfl (Bg hb HQ.out.symm hk.gr ⟨_,_,_,_,rfl,hk.rp,hk.rl⟩ (by intro k hk;exact hk.1) hk.par (Ag _ _ _ _ _ _ _ _ _))
end
section
variable {b:Nat}{tv wv:Value}{l:List Tok}{wl:List Bs}
theorem Res.bind_assoc{α β γ:Type}(r:Res α)(f:α→Nat→Res β)(g:β→Nat→Res γ):(r.bind f).bind g=r.bind fun a i=>(f a i).bind g:=by cases r<;>rfl
theorem LY{E:Nat→Res Ex}(hE:CE 67 b tv wv l wl E)(hgo:DS E)(hl:C1 l)(n:Nat):CE 313 b tv wv l wl (Cc l E n):=by
 intro w i hp ho;have hb:=hp.lt;have gr:w.grownBy (w.alloc (.cells zeroE.toArray 27 (0,0))) (some b):=Ad (Ac _ _) _;have hz:=Blk.new w zeroE 27;replace hp:=hp.alloc (.cells zeroE.toArray 27 (0,0));have H:=O (Z hE (Z hgo (Z hl ho)));generalize hR:Cc l E n i=R at*;have HQ:=O hR;rw[Cc]at HQ;have hk:=Kept.leaf (n:=w.heap.size+1) hb gr hz hp 7 [] (by simp);clear hE hgo hl ho hR hz gr;go_enter func313,ntmps313;go_wp2_with fail;cases hs:Ae (Ab l i) [124]with
 | true=>
   replace HQ:=HQr HQ (by rw[if_pos hs]);refine(Bw hk.par _ hs).mono ?_;rintro e w1 ⟨rfl,hp,g⟩;replace hk:=hk.gb hb g hp;have hk8:=hk.op hb 8;have hL:=hk.blk;obtain⟨cl_0,cl_1,cl_2,cl_3,cl_4,cl_5,cl_6,cl_f⟩:=(hL).c7;have hlt:=hL.lt;clear hk g;cases hs:Ae (Ab l (i+1)) [124]with
   | true=>
     replace HQ:=HQr HQ (by rw[if_pos hs]);replace HQ:=HQr HQ (by rw[Res.bind_ok]);go_wp2_with fail;refine(Bw hk8.par _ hs).mono ?_;rintro e w2 ⟨rfl,hp,g⟩;have hk:=hk8.gb hb g hp;clear cl_0 cl_1 cl_2 cl_3 cl_4 cl_5 cl_6 cl_f hL;clear hk8 g hp hlt;have hp:=hk.par;have gr:=hk.gr;have hltW:=hk.blk.lt;have hwL:=hk.wL;go_wp2_with fail;refine(H.out.1 _ _ hp (fun e=>H.out.2.2.2 (by rw[←HQ.out,e];rfl))).mono ?_;intro e wx hq;obtain⟨g,⟨q,hr,rfl⟩| ⟨x,jx,v,hr,rfl,⟨pa,pc,la,lc,rfl,rp,rl⟩,hp⟩⟩:=hq.split
     ·exact⟨rfl,Post.bad (Aa gr g) (by rw[←HQ.out,hr];rfl)⟩
     replace gr:=Aa gr g;replace HQ:=HQr HQ (by rw[hr,Res.bind_ok]);clear hr;replace hk:=hk.gb hb g hp;have HK1:=O (hk.kid1 hb (rp.mono fun g hg _=>(⟨by have:_≤g:=hg;omega,by have:_≤g:=hg;omega⟩:but w _ g)) (rl.mono fun g hg _=>(⟨by have:_≤g:=hg;omega,by have:_≤g:=hg;omega⟩:but w _ g)));have hL:=hk.blk;obtain⟨cl_0,cl_1,cl_2,cl_3,cl_4,cl_5,cl_6,cl_f⟩:=(hL).c7;have hlt:=hL.lt;clear hk rp rl g;go_wp2_with fail;have hk:=HK1.out;replace gr:=hk.gr;refine(Cx hk.par [125]).mono ?_;intro e wy hq;obtain⟨g,⟨q,hr,rfl⟩| ⟨_,jy,v,hr,rfl,rfl,hp⟩⟩:=hq.split
     ·exact⟨rfl,Post.bad (Aa gr g) (by rw[←HQ.out,hr];rfl)⟩
     replace gr:=Aa gr g;replace HQ:=HQr HQ (by rw[hr,Res.bind_ok]);clear hr;replace hk:=hk.gb hb g hp;clear cl_0 cl_1 cl_2 cl_3 cl_4 cl_5 cl_6 cl_f hL;clear g HK1 hlt;have hL:=hk.blk;have hZ:=hk.zero;have hwL:=hk.wL;have HK:=O hk;clear hk hp;obtain⟨cl_0,cl_1,cl_2,cl_3,cl_4,cl_5,cl_6,cl_f⟩:=(hL).c7;obtain⟨cz_0,cz_1,cz_2,cz_3,cz_4,cz_5,cz_6,cz_f⟩:=(hZ).c7;go_wp2;have hk:=HK.out;exact bodyPost_ret (Ai rfl _ (hZ.set7 _ _ _ _ _ _ _) rfl) rfl (Bg hb HQ.out.symm hk.gr ⟨_,_,_,_,rfl,hk.rp,hk.rl⟩ (by intro k hk;exact hk.1) hk.par (Ag _ _ _ _ _ _ _ _ _))
   | false=>
     replace HQ:=HQr HQ (by rw[if_neg (ne_true_of_eq_false hs)]);replace HQ:=HQr HQ (by rw[Res.bind_assoc]);go_wp2_with fail;refine(Bo hk8.par _ hs).mono ?_;rintro e w2 ⟨rfl,g⟩;have hk:=hk8.gbN hb g;clear cl_0 cl_1 cl_2 cl_3 cl_4 cl_5 cl_6 cl_f hL;clear hk8 g hp hlt;have hp:=hk.par;have gr:=hk.gr;have hltW:=hk.blk.lt;have hwL:=hk.wL;go_wp2_with fail;refine(ND hp H.out.2.2.1 n (fun e=>H.out.2.2.2 (by rw[←HQ.out,e];rfl))).mono ?_;intro e w3 hq;obtain⟨g,⟨q,hr,rfl⟩| ⟨p,j3,v,hr,rfl,⟨ma,mc,rfl,rp⟩,hp⟩⟩:=hq.split
     ·exact⟨rfl,Post.bad (Aa gr g) (by rw[←HQ.out,hr];rfl)⟩
     replace gr:=Aa gr g;replace HQ:=HQr HQ (by rw[hr,Res.bind_ok]);clear hr;replace hk:=hk.gb hb g hp;have hk2:=hk.names hb (rp.mono fun g hg _=>(⟨by have:w2.heap.size≤g:=hg;omega,by have:w2.heap.size≤g:=hg;omega⟩:but w (w.heap.size+1) g));have hL:=hk.blk;obtain⟨cl_0,cl_1,cl_2,cl_3,cl_4,cl_5,cl_6,cl_f⟩:=(hL).c7;have hlt:=hL.lt;clear hk rp g;go_wp2_with fail;replace gr:=hk2.gr;replace HQ:=HQr HQ (by rw[Res.bind_assoc]);refine(Cx hk2.par [124]).mono ?_;intro e w4 hq;obtain⟨g,⟨q,hr,rfl⟩| ⟨_,j4,v,hr,rfl,rfl,hp⟩⟩:=hq.split
     ·exact⟨rfl,Post.bad (Aa gr g) (by rw[←HQ.out,hr];rfl)⟩
     replace gr:=Aa gr g;replace HQ:=HQr HQ (by rw[hr,Res.bind_ok]);clear hr;replace HQ:=HQr HQ (by rw[Res.bind_ok]);have hk:=hk2.gb hb g hp;clear cl_0 cl_1 cl_2 cl_3 cl_4 cl_5 cl_6 cl_f hL;clear hk2 g hp gr hltW hwL hlt;have hp:=hk.par;have gr:=hk.gr;have hltW:=hk.blk.lt;have hwL:=hk.wL;go_wp2_with fail;refine(H.out.1 _ _ hp (fun e=>H.out.2.2.2 (by rw[←HQ.out,e];rfl))).mono ?_;intro e wx hq;obtain⟨g,⟨q,hr,rfl⟩| ⟨x,jx,v,hr,rfl,⟨pa,pc,la,lc,rfl,rp,rl⟩,hp⟩⟩:=hq.split
     ·exact⟨rfl,Post.bad (Aa gr g) (by rw[←HQ.out,hr];rfl)⟩
     replace gr:=Aa gr g;replace HQ:=HQr HQ (by rw[hr,Res.bind_ok]);clear hr;replace hk:=hk.gb hb g hp;have HK1:=O (hk.kid1 hb (rp.mono fun g hg _=>(⟨by have:_≤g:=hg;omega,by have:_≤g:=hg;omega⟩:but w _ g)) (rl.mono fun g hg _=>(⟨by have:_≤g:=hg;omega,by have:_≤g:=hg;omega⟩:but w _ g)));have hL:=hk.blk;obtain⟨cl_0,cl_1,cl_2,cl_3,cl_4,cl_5,cl_6,cl_f⟩:=(hL).c7;have hlt:=hL.lt;clear hk rp rl g;go_wp2_with fail;have hk:=HK1.out;replace gr:=hk.gr;refine(Cx hk.par [125]).mono ?_;intro e wy hq;obtain⟨g,⟨q,hr,rfl⟩| ⟨_,jy,v,hr,rfl,rfl,hp⟩⟩:=hq.split
     ·exact⟨rfl,Post.bad (Aa gr g) (by rw[←HQ.out,hr];rfl)⟩
     replace gr:=Aa gr g;replace HQ:=HQr HQ (by rw[hr,Res.bind_ok]);clear hr;replace hk:=hk.gb hb g hp;clear cl_0 cl_1 cl_2 cl_3 cl_4 cl_5 cl_6 cl_f hL;clear g HK1 hlt;have hL:=hk.blk;have hZ:=hk.zero;have hwL:=hk.wL;have HK:=O hk;clear hk hp;obtain⟨cl_0,cl_1,cl_2,cl_3,cl_4,cl_5,cl_6,cl_f⟩:=(hL).c7;obtain⟨cz_0,cz_1,cz_2,cz_3,cz_4,cz_5,cz_6,cz_f⟩:=(hZ).c7;go_wp2;have hk:=HK.out;exact bodyPost_ret (Ai rfl _ (hZ.set7 _ _ _ _ _ _ _) rfl) rfl (Bg hb HQ.out.symm hk.gr ⟨_,_,_,_,rfl,hk.rp,hk.rl⟩ (by intro k hk;exact hk.1) hk.par (Ag _ _ _ _ _ _ _ _ _))
 | false=>
   replace HQ:=HQr HQ (by rw[if_neg (ne_true_of_eq_false hs)]);refine(Bo hk.par _ hs).mono ?_;rintro e w3 ⟨rfl,g⟩;replace hk:=hk.gbN hb g;replace hp:=hk.par;have gr:=hk.gr;have hlt:=hk.blk.lt;have hwL:=hk.wL;go_wp2_with fail;refine(Jd H.out.1 H.out.2.1 hp n (fun e=>H.out.2.2.2 (by rw[←HQ.out,e];rfl))).mono ?_;intro e w4 hq;obtain⟨g,⟨q,hr,rfl⟩| ⟨f,j3,v,hr,rfl,⟨ma,mc,rfl,rl⟩,hp⟩⟩:=hq.split
   ·exact⟨rfl,Post.bad (Aa gr g) (by rw[←HQ.out,hr];rfl)⟩
   replace gr:=Aa gr g;replace HQ:=HQr HQ (by rw[hr,Res.bind_ok]);clear hr;replace hk:=hk.gb hb g hp;have hk2:=hk.kids hb (rl.mono fun g hg _=>(⟨by have:w3.heap.size≤g:=hg;omega,by have:w3.heap.size≤g:=hg;omega⟩:but w (w.heap.size+1) g));have hL:=hk.blk;obtain⟨cl_0,cl_1,cl_2,cl_3,cl_4,cl_5,cl_6,cl_f⟩:=(hL).c7;have hlt:=hL.lt;clear hk rl;go_wp2_with fail;replace gr:=hk2.gr;refine(Cx hk2.par [125]).mono ?_;intro e w5 hq;obtain⟨g,⟨q,hr,rfl⟩| ⟨_,j4,v,hr,rfl,rfl,hp⟩⟩:=hq.split
   ·exact⟨rfl,Post.bad (Aa gr g) (by rw[←HQ.out,hr];rfl)⟩
   replace gr:=Aa gr g;replace HQ:=HQr HQ (by rw[hr,Res.bind_ok]);clear hr;have hk:=hk2.gb hb g hp;clear cl_0 cl_1 cl_2 cl_3 cl_4 cl_5 cl_6 cl_f hL;clear hk2 g;have hL:=hk.blk;have hZ:=hk.zero;have hwL:=hk.wL;have HK:=O hk;clear hk hp;obtain⟨cl_0,cl_1,cl_2,cl_3,cl_4,cl_5,cl_6,cl_f⟩:=(hL).c7;obtain⟨cz_0,cz_1,cz_2,cz_3,cz_4,cz_5,cz_6,cz_f⟩:=(hZ).c7;go_wp2;have hk:=HK.out;exact bodyPost_ret (Ai rfl _ (hZ.set7 _ _ _ _ _ _ _) rfl) rfl (Bg hb HQ.out.symm hk.gr ⟨_,_,_,_,rfl,hk.rp,hk.rl⟩ (by intro k hk;exact hk.1) hk.par (Ag _ _ _ _ _ _ _ _ _))
end
end Go.Proofs.YtgjdhajcnechdaaGreatDoor
