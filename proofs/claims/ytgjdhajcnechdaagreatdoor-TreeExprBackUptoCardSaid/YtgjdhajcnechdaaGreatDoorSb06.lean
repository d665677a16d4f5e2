/-
  Contracts of the parser: variable, names, unary, list. Contracts of the parser: list, unary. Contracts of the parser: unary. Contracts of the parser: call, macro, braced.
-/
import Derived.Test.YtgjdhajcnechdaaGreatDoorSb03
import Derived.Test.YtgjdhajcnechdaaGreatDoorSb05
set_option linter.all false
set_option maxRecDepth 100000
set_option maxHeartbeats 8000000
namespace Go.Proofs.YtgjdhajcnechdaaGreatDoor
open Go.Proofs.Tryz
open Go.RowKit
section
variable {b:Nat}{tv wv:Value}{l:List Tok}{wl:List Bs}
theorem F5{w:World}{i:Nat}(h:Par w b tv wv l wl i)(hl:Ce l):
 Calls Tryz.prog 311 #[.pointer (some ⟨b,0,none⟩)] w (Post b tv wv l wl w (fun _ v x=>v=str x) (AM l i)):=by
 have hb:=h.lt;have c3:=h.c3;have HL:=I hl;clear hl;go_enter func311,ntmps311;go_wp2_with fail;go_region_with(first| (go_at_call 111;refine(BG (h.gbN (Aj (Ac _ _)))).mono ?_;rintro e w1 ⟨rfl,g1⟩;have h1:=h.gbN (O (Aj (Ac _ _)) g1);have d3:=h1.c3)| (go_at_call 52;refine(slices_Contains_string_empty _ _ _ _).mono ?_;rintro e w2 ⟨rfl,rfl⟩));all_goals
  have gA:=O (Aj (Ac w none)) g1;go_wp2_with fail;refine(CA h1 HL.out).mono ?_;rintro e w2 ⟨g2,h2⟩;cases hr:AM l i with
  |out=>rw[hr]at h2;exact h2.elim
  | bad q=>
    rw[hr]at h2;subst h2;exact⟨rfl,Post.bad (O (AW gA) g2) hr⟩
  | ok x j=>
    rw[hr]at h2;obtain⟨v,rfl,rfl,h2⟩:=h2;have HR:=I hr;clear hr;go_wp2;go_ret;exact Post.ok (O (AW gA) g2) HR.out rfl h2
theorem Fw{w:World}{base e size n m:Nat}{cs:List Value}(hm:m=w.heap.size)(hb:base≤w.heap.size)(h:cs.length=n*size)(hn:n≤maxLen):(w.alloc (.cells cs.toArray e (0,0))).ownsRow base e size (.slice (some ⟨m,0,none⟩) n n) n cs:=by
 subst hm;exact⟨h,.inr ⟨_,_,cs.toArray,rfl,hb,heap_alloc_new w _,Nat.le_refl _,hn,by simpa using h,by simp[←h]⟩⟩
def VS(B:Nat)(w:World)(v:Value)(p:List Bs):Prop:=∃pa pc,v= .slice pa p.length pc∧Cells w v 1 p.length (p.map str) (AD B)
theorem VS.of_owns{w:World}{B:Nat}{v:Value}{p:List Bs}(h:w.ownsRow B 9 1 v p.length (p.map str)):VS B w v p:=by
 have hc:=Dw h;obtain⟨a,cap,e,_⟩:=id hc;exact⟨a,cap,e,hc⟩
def Ny(l:List Tok)(wl:List Bs)(b:Nat)(tv wv:Value)(w:World)(r:Res (List Bs))(m:Nat)(v:Value)(wr:World):Prop:=
 ∃acc j,wr.ownsRow w.heap.size 9 1 v acc.length (acc.map str)∧Par wr b tv wv l wl j∧namesLoop l m acc j=r∧w.grownBy wr (some b)∧acc.length≤j∧acc≠[]
theorem Lp{w:World}{i:Nat}(h:Par w b tv wv l wl i)(hl:Ce l)(n:Nat)(ho:B7 l n i ≠ .out):
 Calls Tryz.prog 185 #[.pointer (some ⟨b,0,none⟩)] w (Post b tv wv l wl w (VS w.heap.size) (B7 l n i)):=by
 have hb:=h.lt;have hf:=h.few;generalize hR:B7 l n i=R at*;have H:=I (X hl (X ho hR));clear hl ho hR;go_enter func185,ntmps185;go_wp2_with fail;refine(CA h H.out.1).mono ?_;rintro e w1 ⟨g1,h1⟩;cases hr:AM l i with
 |out=>rw[hr]at h1;exact h1.elim
 | bad q=>
   rw[hr]at h1;subst h1;exact⟨rfl,Post.bad g1 (by rw[←H.out.2.2,B7,hr];rfl)⟩
 | ok x j=>
   rw[hr]at h1;obtain⟨v,rfl,rfl,h1⟩:=h1;have HR:=I (show namesLoop l n [x] j=R by rw[←H.out.2.2,B7,hr];rfl);have hj:1≤j:=by
    unfold AM at hr;split at hr
    ·cases hr;omega
    ·cases hr
   have hs1:=g1.size;have ho1:(w1.alloc (.cells [str x].toArray 9 (0,0))).ownsRow w.heap.size 9 1 (.slice (some ⟨w1.heap.size,0,none⟩) 1 1) 1 [str x]:=Fw rfl hs1 rfl (by decide);have h1':=h1.alloc (.cells [str x].toArray 9 (0,0));have g1':=Aa g1 (.cells [str x].toArray 9 (0,0));clear hr;go_wp2_with fail;go_loopg [3] n (fun m v wr=>Ny l wl b tv wv w R m v wr)
   case atStart=>exact⟨[x],j,ho1,h1',HR.out,g1',hj,by simp⟩
   case round=>
    obtain⟨acc,q,hown,hp,hloop,gr,hlen,hne⟩:=hrel;clear ho1 h1' g1' h1 g1;have hj2:=hp.le;cases gk with
    |zero=>exact absurd hloop.symm H.out.2.1
    |succ m=>
    cases hs:Ad (Z l q) [44]with
    | false=>
      have HQ:=I (show R= .ok acc q by rw[←hloop];simp[namesLoop,hs]);have HO:=I hown;have HS:=I hs;clear hloop hs hown;go_wp2_with fail;refine(Be hp _ HS.out).mono ?_;rintro e w2 ⟨rfl,g2⟩;have h2:=hp.gbN g2;go_wp2;go_ret;exact Post.ok (Ae gr g2) HQ.out (VS.of_owns (Dc HO.out g2 (by simp))) h2
    | true=>
      have HQ:=I (show(AM l (q+1)).bind (fun y j=>namesLoop l m (acc++[y]) j)=R by rw[←hloop];simp[namesLoop,hs]);have HO:=I hown;have HS:=I hs;clear hloop hs hown;go_wp2_with fail;refine(Bj hp _ HS.out).mono ?_;rintro e w2 ⟨rfl,h2,g2⟩;go_wp2_with fail;refine(CA h2 H.out.1).mono ?_;rintro e w3 ⟨g3,h3⟩;cases hr2:AM l (q+1)with
      |out=>rw[hr2]at h3;exact h3.elim
      | bad z=>
        rw[hr2]at h3;subst h3;exact⟨rfl,Post.bad (O (O gr g2) g3) (by rw[←HQ.out,hr2];rfl)⟩
      | ok y z=>
        rw[hr2]at h3;obtain⟨v',rfl,rfl,h3⟩:=h3;have hz:q+2≤z:=by
         unfold AM at hr2;split at hr2
         ·cases hr2;omega
         ·cases hr2
        have HQ2:=I (show namesLoop l m (acc++[y]) z=R by rw[←HQ.out,hr2];rfl);have g23:=O g2 g3;have hown3:=Dc HO.out g23 (by intro k hk _ e;cases e;omega);have hown4:=hown3.alloc (.cells [str y].toArray 9 (0,0));have hlen2:=h3.le;have gA:=Aa (O gr g23) (.cells [str y].toArray 9 (0,0));have hA:=h3.alloc (.cells [str y].toArray 9 (0,0));have hbs:=gA.size;obtain⟨i0,hi,hz0,hz1,hz2⟩:=info_parts ED;have hnc:=Db w3 [str y] 9;have hml:acc.length+1≤maxLen:=by unfold maxLen;omega
        clear hr2 hown3;have HX:=I (X hi (X hz0 (X hz1 (X hz2 (X hnc (X hml hown4))))));clear hi hz0 hz1 hz2 hnc hml hown4;go_wp2_with (at_builtin;obtain⟨hi,hz0,hz1,hz2,hnc,hml,hown4⟩:=HX.out;refine Dg rfl _ _ 24 rfl w.heap.size 9 i0 (str []) 1 16 underlying24 hi hz0 hz1 hz2 rfl (by decide) _ _ _ rfl hown4 ⟨w3.heap.size,0,none⟩ 1 1 [str y] rfl rfl hnc (by simp[Value.oneCell']) hml (by omega) hbs ?_;intro v' w5 hown5 g5 _;clear hi hz0 hz1 hz2 hnc hml hown4);have HO5:=I hown5;clear hown5;go_roundg m
        case measure=>omega
        case rel=>
         have hob:∀k,u3.ownBlock=some k→b<k:=fun k hk=>by have:=(HO.out.lt k hk).1;omega
         have hob2:∀k,u3.ownBlock=some k→w.heap.size≤k:=fun k hk=>(HO.out.lt k hk).1;refine⟨acc++[y],z,by simpa using HO5.out,hA.gb g5 hob,HQ2.out,?_,by simp;omega,by simp⟩;have g5':World.grownBy (w3.alloc _) w5 u3.ownBlock:=g5;cases hv:u3.ownBlock with
         |none=>rw[hv]at g5';exact Ae gA g5'
         |some k=>rw[hv]at g5';exact AN gA g5' (.inr (hob2 k hv))
end
section
variable {b:Nat}{tv wv:Value}{l:List Tok}{wl:List Bs}
def VL(B:Nat)(w:World)(v:Value)(f:Fo):Prop:=∃la lc,v= .slice la f.len lc∧RepL (AD B) w v f
theorem VL.of_owns{w:World}{B:Nat}{v:Value}{f:Fo}(h:OwnF w B v f):VL B w v f:=by
 obtain⟨cs,h1,h2⟩:=id h;obtain⟨a,cap,e,_⟩:=Dw h1;exact⟨a,cap,e,h.rep⟩
def ListR(l:List Tok)(wl:List Bs)(E:Nat→Res Ex)(b:Nat)(tv wv:Value)(w:World)(r:Res Fo)(m:Nat)(v:Value)(wr:World):Prop:=
 ∃acc j,OwnF wr w.heap.size v acc∧Par wr b tv wv l wl j∧listLoop l E m acc j=r∧w.grownBy wr (some b)∧acc.len≤j
def CW(E:Nat→Res Ex):Prop:=∀i x j,E i= .ok x j→i<j
theorem G1{E:Nat→Res Ex}(hE:CE 67 b tv wv l wl E)(hgo:CW E){w:World}{i:Nat}(h:Par w b tv wv l wl i)(n:Nat)(ho:BN l E n i ≠ .out):
 Calls Tryz.prog 220 #[.pointer (some ⟨b,0,none⟩)] w (Post b tv wv l wl w (VL w.heap.size) (BN l E n i)):=by
 have hb:=h.lt;have hf:=h.few;generalize hR:BN l E n i=R at*;have H:=I (X hE (X ho (X hR hgo)));clear hE ho hR hgo;go_enter func220,ntmps220;go_wp2_with fail;refine(H.out.1 _ _ h (fun e=>H.out.2.1 (by rw[←H.out.2.2.1,BN,e];rfl))).mono ?_;rintro e w1 ⟨g1,h1⟩;cases hr:E i with
 |out=>rw[hr]at h1;exact h1.elim
 | bad q=>
   rw[hr]at h1;subst h1;exact⟨rfl,Post.bad g1 (by rw[←H.out.2.2.1,BN,hr];rfl)⟩
 | ok x j=>
   rw[hr]at h1;obtain⟨v,rfl,⟨pa,pc,la,lc,rfl,rp,rl⟩,h1⟩:=h1;have HR:=I (show listLoop l E n (.one x) j=R by rw[←H.out.2.2.1,BN,hr];rfl);have hj:1≤j:=by have:=H.out.2.2.2 _ _ _ hr;omega
   have hs1:=g1.size;have hlt:=h1.lt;have ho1:OwnF (w1.alloc (.cells (hdC x.h (.slice pa x.h.p.length pc) (.slice la x.kids.len lc)).toArray 27 (0,0))) w.heap.size (.slice (some ⟨w1.heap.size,0,none⟩) 1 1) (.one x):=by
    have g:=World.grownBy_alloc w1 (.cells (hdC x.h (.slice pa x.h.p.length pc) (.slice la x.kids.len lc)).toArray 27 (0,0)) none;refine⟨_,Fw rfl hs1 rfl (by decide),RepF.gb g (by simp) (RepF.mono (ok:=AD w.heap.size) ?_ (VE.rep rp rl))⟩;intro k hk hk2;exact⟨hk,by simp[Value.ownBlock];omega⟩
   have HO:=I ho1;have h1':=h1.alloc (.cells (hdC x.h (.slice pa x.h.p.length pc) (.slice la x.kids.len lc)).toArray 27 (0,0));have g1':=Aa g1 (.cells (hdC x.h (.slice pa x.h.p.length pc) (.slice la x.kids.len lc)).toArray 27 (0,0));clear hr ho1 rp rl;go_wp2_with fail;go_loopg [3] n (fun m v wr=>ListR l wl E b tv wv w R m v wr)
   case atStart=>exact⟨.one x,j,HO.out,h1',HR.out,g1',hj⟩
   case round=>
    obtain⟨acc,q,hown,hp,hloop,gr,hlen⟩:=hrel;clear HO h1' g1' h1 g1;have hj2:=hp.le;cases gk with
    |zero=>exact absurd hloop.symm H.out.2.1
    |succ m=>
    cases hs:Ad (Z l q) [44]with
    | false=>
      have HQ:=I (show R= .ok acc q by rw[←hloop];simp[listLoop,hs]);have HO:=I hown;have HS:=I hs;clear hloop hs hown;go_wp2_with fail;refine(Be hp _ HS.out).mono ?_;rintro e w2 ⟨rfl,g2⟩;have h2:=hp.gbN g2;go_wp2;go_ret;exact Post.ok (Ae gr g2) HQ.out (VL.of_owns (HO.out.gb g2 (by simp))) h2
    | true=>
      have HQ:=I (show(E (q+1)).bind (fun y j=>listLoop l E m (acc.snoc y) j)=R by rw[←hloop];simp[listLoop,hs]);have HO:=I hown;have HS:=I hs;clear hloop hs hown;go_wp2_with fail;refine(Bj hp _ HS.out).mono ?_;rintro e w2 ⟨rfl,h2,g2⟩;go_wp2_with fail;refine(H.out.1 _ _ h2 (fun e=>H.out.2.1 (by rw[←HQ.out,e];rfl))).mono ?_;rintro e w3 ⟨g3,h3⟩;cases hr2:E (q+1)with
      |out=>rw[hr2]at h3;exact h3.elim
      | bad z=>
        rw[hr2]at h3;subst h3;exact⟨rfl,Post.bad (O (O gr g2) g3) (by rw[←HQ.out,hr2];rfl)⟩
      | ok y z=>
        rw[hr2]at h3;obtain⟨v',rfl,⟨ya,yc,ma,mc,rfl,ry,rm⟩,h3⟩:=h3;have hz:q+1<z:=H.out.2.2.2 _ _ _ hr2;have HQ2:=I (show listLoop l E m (acc.snoc y) z=R by rw[←HQ.out,hr2];rfl);have g23:=O g2 g3;obtain⟨cs,hown3,hrep3⟩:=HO.out.gb g23 (by intro k hk _ e;cases e;omega);have hown4:=hown3.alloc (.cells (hdC y.h (.slice ya y.h.p.length yc) (.slice ma y.kids.len mc)).toArray 27 (0,0));have hlen2:=h3.le;have gB:=World.grownBy_alloc w3 (.cells (hdC y.h (.slice ya y.h.p.length yc) (.slice ma y.kids.len mc)).toArray 27 (0,0)) none;have gA:=Aa (O gr g23) (.cells (hdC y.h (.slice ya y.h.p.length yc) (.slice ma y.kids.len mc)).toArray 27 (0,0));have hA:=h3.alloc (.cells (hdC y.h (.slice ya y.h.p.length yc) (.slice ma y.kids.len mc)).toArray 27 (0,0));have hbs:=gA.size;have hs23:=g2.size;have hsr:=gr.size;have hol:∀k,u3.ownBlock=some k→w.heap.size≤k∧k<wr.heap.size:=fun k hk=>by
         obtain⟨cs0,ho0,_⟩:=HO.out;exact ho0.lt k hk
        obtain⟨i0,hi,hz0,hz1,hz2⟩:=info_parts CX;have hnc:=Db w3 (hdC y.h (.slice ya y.h.p.length yc) (.slice ma y.kids.len mc)) 27;have hml:acc.len+1≤maxLen:=by unfold maxLen;omega
        have HY:=I (X (hrep3.gb gB (by simp)) (X (ry.gb gB (by simp)) (rm.gb gB (by simp))));have HX:=I (X hi (X hz0 (X hz1 (X hz2 (X hnc (X hml (X hown4 hol)))))));clear hr2 hown3 hrep3 ry rm hi hz0 hz1 hz2 hnc hml hown4 hol;go_wp2_with (at_builtin;obtain⟨hi,hz0,hz1,hz2,hnc,hml,hown4,hol⟩:=HX.out;refine Dg rfl _ _ 25 rfl w.heap.size 27 i0 _ 7 104 underlying25 hi hz0 hz1 hz2 rfl (by decide) _ _ _ rfl hown4 ⟨w3.heap.size,0,none⟩ 1 1 (hdC y.h (.slice ya y.h.p.length yc) (.slice ma y.kids.len mc)) rfl rfl hnc (by simp[hdC,Value.oneCell']) hml (by omega) hbs ?_;intro v' w5 hown5 g5 hn5;clear hi hz0 hz1 hz2 hnc hml hown4 hol);have HO5:=I (X hown5 hn5);clear hown5 hn5;go_roundg m
        case measure=>omega
        case rel=>
         have hol:=HX.out.2.2.2.2.2.2.2;have g5':World.grownBy (w3.alloc _) w5 u3.ownBlock:=g5;refine⟨acc.snoc y,z,?_,hA.gb g5' (fun k hk=>by have:=(hol k hk).1;omega),HQ2.out,?_,by rw[Fo.len_snoc];omega⟩
         ·exact OwnF.snoc (v:=u3) (okx:=AD w2.heap.size) HY.out.1 rfl HY.out.2.1 HY.out.2.2 (by intro k hk;have hk:w2.heap.size≤k:=hk;exact⟨by omega,fun e=>by have:=(hol k e).2;omega⟩) HO5.out.1 g5' HO5.out.2
         ·cases hv:u3.ownBlock with
          |none=>rw[hv]at g5';exact Ae gA g5'
          |some k=>rw[hv]at g5';exact AN gA g5' (.inr (hol k hv).1)
end
section
variable {b:Nat}{tv wv:Value}{l:List Tok}{wl:List Bs}
abbrev but(w:World)(L:Nat):Nat→Prop:=fun g=>w.heap.size<g∧g≠L
structure Kept(b:Nat)(tv wv:Value)(l:List Tok)(wl:List Bs)(w:World)(L:Nat)(wr:World)(x:Ex)(pa:Option Addr)(pc:Nat)(la:Option Addr)(lc:Nat)(j:Nat):Prop where
 par:Par wr b tv wv l wl j
 blk:Blk wr L (hdC x.h (.slice pa x.h.p.length pc) (.slice la x.kids.len lc)) 27
 rp:Cells wr (.slice pa x.h.p.length pc) 1 x.h.p.length (x.h.p.map str) (but w L)
 rl:RepL (but w L) wr (.slice la x.kids.len lc) x.kids
 gr:w.grownBy wr (some b)
 bL:b<L
 wL:w.heap.size<L
 zero:Blk wr w.heap.size zeroE 27
variable {w wr w1:World}{L j k:Nat}{x y z:Ex}{pa la ya ma:Option Addr}{pc lc yc mc:Nat}
theorem Kept.gb(h:Kept b tv wv l wl w L wr x pa pc la lc j)(hb:b<w.heap.size)(g:wr.grownBy w1 (some b))(hp:Par w1 b tv wv l wl k):Kept b tv wv l wl w L w1 x pa pc la lc k:=
 ⟨hp,h.blk.gb g (by have:=h.bL;simp;omega),h.rp.gb g (by intro q hq _ e;cases e;have:=hq.1;omega),h.rl.gb g (by intro q hq _ e;cases e;have:=hq.1;omega),O h.gr g,h.bL,h.wL,h.zero.gb g (by simp;omega)⟩
theorem Kept.gbN(h:Kept b tv wv l wl w L wr x pa pc la lc j)(hb:b<w.heap.size)(g:wr.grownBy w1 none):Kept b tv wv l wl w L w1 x pa pc la lc j:=
 h.gb hb (AW g) (h.par.gbN g)
theorem Kept.two(h:Kept b tv wv l wl w L wr x pa pc la lc j)(hb:b<w.heap.size)(op:Int)(s:Bs)(zp:Cells wr (.slice ya z.h.p.length yc) 1 z.h.p.length (z.h.p.map str) (but w L))(zl:RepL (but w L) wr (.slice ma z.kids.len mc) z.kids):
 Kept b tv wv l wl w L ((set7 wr L (.int .i64 op) (str s) (.int .i64 0) (.int .i64 0) (str []) (.slice none 0 0) (.slice (some ⟨wr.heap.size,0,none⟩) 2 2)).alloc (.cells (hdC x.h (.slice pa x.h.p.length pc) (.slice la x.kids.len lc)++hdC z.h (.slice ya z.h.p.length yc) (.slice ma z.kids.len mc)).toArray 27 (0,0)))
  ⟨hd0 op s,.two x z⟩ none 0 (some ⟨wr.heap.size,0,none⟩) 2 j:=by
 have g7:=Av wr L (.int .i64 op) (str s) (.int .i64 0) (.int .i64 0) (str []) (.slice none 0 0) (.slice (some ⟨wr.heap.size,0,none⟩) 2 2);have hsz:(set7 wr L (.int .i64 op) (str s) (.int .i64 0) (.int .i64 0) (str []) (.slice none 0 0) (.slice (some ⟨wr.heap.size,0,none⟩) 2 2)).heap.size=wr.heap.size:=by simp[set7]
 have hbL:=h.bL;have hwL:=h.wL;have hlt:=h.blk.lt;have hk:∀q,but w L q→q<wr.heap.size→some q≠some L:=fun q hq _ e=>by cases e;exact hq.2 rfl
 refine⟨(h.par.gb g7 (by intro q e;cases e;exact hbL)).alloc _,((h.blk.set7 _ _ _ _ _ _ _).of_eq rfl rfl).alloc _,Cells.nil _ 1 _,?_,Aa (AN h.gr g7 (.inr (by omega))) _,hbL,hwL,?_⟩
 ·exact RepL.two hsz.symm ⟨by omega,by omega⟩ (h.rp.gb g7 hk) (h.rl.gb g7 hk) (zp.gb g7 hk) (zl.gb g7 hk)
 ·exact(h.zero.gb g7 (by simp;omega)).alloc _
def IdxR(l:List Tok)(wl:List Bs)(E:Nat→Res Ex)(b:Nat)(tv wv:Value)(w:World)(L:Nat)(r:Res Ex)(m:Nat)(wr:World):Prop:=
 ∃x pa pc la lc j,Kept b tv wv l wl w L wr x pa pc la lc j∧Br l E m x j=r
theorem KU{E prim:Nat→Res Ex}(hE:CE 67 b tv wv l wl E)(hP:CE 278 b tv wv l wl prim):∀m,CE 244 b tv wv l wl (AQ l E prim m):=by
 intro m;induction m with
 |zero=>intro w i h ho;exact absurd rfl ho
 |succ m ih=>
 intro w i h ho;have hb:=h.lt;have gz:w.grownBy (w.alloc (.cells zeroE.toArray 27 (0,0))) (some b):=Aa (Ac _ _) _;have hz:=Blk.new w zeroE 27;have hp:=h.alloc (.cells zeroE.toArray 27 (0,0));by_cases hn1:Ad (Z l i) [45]=true
 ·have H:=I (X ih ho);have HN:=I (X True.intro hn1);generalize hR:AQ l E prim (m+1) i=R at*;have hR':(AQ l E prim m (i+1)).bind (fun x j=> .ok (unE [45] x) j)=R:=by rw[←hR];simp[AQ,hn1]
  have HR:=I hR';clear hR hR' hn1 hE hP ih ho;go_enter func244,ntmps244;go_wp2_with fail;refine(Bj hp _ HN.out.2).mono ?_;rintro e wb ⟨rfl,h0,gb⟩;have g0:w.grownBy wb (some b):=O gz gb;have hB:=Blk.gb hz gb (by simp;omega);have hw0:w.heap.size<wb.heap.size:=by have:=gb.size;simp at*;omega
  clear hz hp gb gz;go_wp2_with fail;refine(H.out.1 _ _ h0 (fun e=>H.out.2 (by rw[←HR.out,e];rfl))).mono ?_;rintro e w1 ⟨g1,h1⟩;cases ho:AQ l E prim m (i+1)with
  |out=>rw[ho]at h1;exact h1.elim
  | bad q=>
    rw[ho]at h1;subst h1;exact⟨rfl,Post.bad (O g0 g1) (by rw[←HR.out,ho];rfl)⟩
  | ok x j=>
    rw[ho]at h1;obtain⟨v,rfl,⟨pa,pc,la,lc,rfl,rp,rl⟩,h1⟩:=h1;have hs1:=g1.size;have hb1:=h1.lt;have hlt1:w.heap.size<w1.heap.size:=by omega
    have hZ:=hB.gb g1 (by simp;omega);have hQ:R= .ok (unE [45] x) j:=by rw[←HR.out,ho];rfl
    have H2:=I (X rp (X rl hQ));clear rp rl hQ hB h0;obtain⟨cz_0,cz_1,cz_2,cz_3,cz_4,cz_5,cz_6,cz_f⟩:=(hZ).c7;go_wp2;obtain⟨rp,rl,hQ⟩:=H2.out;have g7:=Av w1 w.heap.size (.int .i64 4) (str [45]) (.int .i64 0) (.int .i64 0) (str []) (.slice none 0 0) (.slice (some ⟨w1.heap.size,0,none⟩) 1 1);have hW:=hZ.set7 (.int .i64 4) (str [45]) (.int .i64 0) (.int .i64 0) (str []) (.slice none 0 0) (.slice (some ⟨w1.heap.size,0,none⟩) 1 1);have hsz:(set7 w1 w.heap.size (.int .i64 4) (str [45]) (.int .i64 0) (.int .i64 0) (str []) (.slice none 0 0) (.slice (some ⟨w1.heap.size,0,none⟩) 1 1)).heap.size=w1.heap.size:=by simp[set7]
    simp only[set7]at hW g7 hsz;generalize(((((((w1.setCell {block:=w.heap.size,off:=0} (.int .i64 4)).setCell {block:=w.heap.size,off:=1} (str [45])).setCell {block:=w.heap.size,off:=2} (.int .i64 0)).setCell {block:=w.heap.size,off:=3} (.int .i64 0)).setCell {block:=w.heap.size,off:=4} (str [])).setCell {block:=w.heap.size,off:=5} (.slice none 0 0)).setCell {block:=w.heap.size,off:=6} (.slice (some ⟨w1.heap.size,0,none⟩) 1 1))=W at*;exact bodyPost_ret (A3 (hd:=hd0 4 [45]) (pv:= .slice none 0 0) (lv:= .slice (some ⟨w1.heap.size,0,none⟩) 1 1) rfl _ (Blk.alloc hW (Obj.cells #[Value.int IntKind.i64 x.h.op,str x.h.s,Value.int IntKind.i64 x.h.vk,Value.int IntKind.i64 x.h.vn,str x.h.vs,Value.slice pa x.h.p.length pc,Value.slice la x.kids.len lc] 27)) rfl) rfl (Dh (op:=4) (s:=[45]) hb hQ (O g0 g1) rp rl (by intro q hq;have:(wb).heap.size≤q:=hq;omega) h1 g7 hsz)
 have hn1':Ad (Z l i) [45]=false:=by simpa using hn1
 have H:=I (X hE (X hP ho));have HN:=I hn1';generalize hR:AQ l E prim (m+1) i=R at*;have hR':(prim i).bind (fun x j=>Br l E m x j)=R:=by rw[←hR];simp[AQ,hn1']
 have HR:=I hR';clear hR hR' hn1 hn1' hE hP ih ho;go_enter func244,ntmps244;go_wp2_with fail;refine(Be hp _ HN.out).mono ?_;rintro e wb ⟨rfl,gb⟩;have h0:=hp.gbN gb;have g0:w.grownBy wb (some b):=Ae gz gb;have hB:=Blk.gb hz gb (by simp);have hw0:w.heap.size<wb.heap.size:=by have:=gb.size;simp at*;omega
 clear hz hp gb gz;go_wp2_with fail;refine(H.out.2.1 _ _ h0 (fun e=>H.out.2.2 (by rw[←HR.out,e];rfl))).mono ?_;rintro e w1 ⟨g1,h1⟩;cases ho:prim i with
 |out=>rw[ho]at h1;exact h1.elim
 | bad q=>
   rw[ho]at h1;subst h1;exact⟨rfl,Post.bad (O g0 g1) (by rw[←HR.out,ho];rfl)⟩
 | ok x j=>
   rw[ho]at h1;obtain⟨v,rfl,⟨pa,pc,la,lc,rfl,rp,rl⟩,h1⟩:=h1;have hs1:=g1.size;have hb1:=h1.lt;have HQ:=I (show Br l E m x j=R by rw[←HR.out,ho];rfl);have hK:Kept b tv wv l wl w w1.heap.size (w1.alloc (.cells (hdC x.h (.slice pa x.h.p.length pc) (.slice la x.kids.len lc)).toArray 27 (0,0))) x pa pc la lc j:=by
    have g:=World.grownBy_alloc w1 (.cells (hdC x.h (.slice pa x.h.p.length pc) (.slice la x.kids.len lc)).toArray 27 (0,0)) none;refine⟨h1.alloc _,Blk.new w1 _ _,(rp.mono ?_).gb g (by simp),(rl.mono ?_).gb g (by simp),Aa (O g0 g1) _,hb1,by omega,((hB.gb g1 (by simp;omega))).alloc _⟩;all_goals
     intro q hq hq2;have:wb.heap.size≤q:=hq;exact⟨by omega,by omega⟩
   have HK:=I hK;clear hK rp rl ho HR h1 hB g1 g0 h0;go_wp2_with fail;go_loopg [] m (fun n wr=>IdxR l wl E b tv wv w w1.heap.size R n wr)
   case atStart=>exact⟨x,pa,pc,la,lc,j,HK.out,HQ.out⟩
   case round=>
    obtain⟨y,ya,yc,ma,mc,q,hk,hloop⟩:=hrel;clear HQ HK;have hp:=hk.par;cases gk with
    |zero=>exact absurd hloop.symm H.out.2.2
    |succ n=>
    cases hs:Ad (Z l q) [91]with
    | false=>
      have HQ:=I (show R= .ok y q by rw[←hloop];simp[Br,hs]);have HS:=I hs;have HK:=I hk;clear hloop hs hk;go_wp2_with fail;refine(Be hp _ HS.out).mono ?_;rintro e w2 ⟨rfl,g2⟩;have hk:=HK.out.gbN hb g2;have hL:=hk.blk;have hZ:=hk.zero;have hwL:=hk.wL;have HK2:=I hk;clear HK hk hp g2;obtain⟨cl_0,cl_1,cl_2,cl_3,cl_4,cl_5,cl_6,cl_f⟩:=(hL).c7;obtain⟨cz_0,cz_1,cz_2,cz_3,cz_4,cz_5,cz_6,cz_f⟩:=(hZ).c7;go_wp2;have hk:=HK2.out;have g7:=Av w2 w.heap.size (.int .i64 y.h.op) (str y.h.s) (.int .i64 y.h.vk) (.int .i64 y.h.vn) (str y.h.vs) (.slice ya y.h.p.length yc) (.slice ma y.kids.len mc);exact bodyPost_ret (A3 rfl _ (hZ.set7 _ _ _ _ _ _ _) rfl) rfl (AT hb HQ.out hk.gr ⟨_,_,_,_,rfl,hk.rp,hk.rl⟩ (by intro k hk;exact hk.1) hk.par g7)
    | true=>
      have HQ:=I (show(E (q+1)).bind (fun z j=>(A8 l [93] j).bind fun _ k=>Br l E n (CQ y z) k)=R by rw[←hloop];simp[Br,hs]);have HS:=I hs;have HK:=I hk;clear hloop hs hk;go_wp2_with fail;refine(Bj hp _ HS.out).mono ?_;rintro e w2 ⟨rfl,h2,g2⟩;have hk:=HK.out.gb hb g2 h2;have hL:=hk.blk;have hwL:=hk.wL;have hbL:=hk.bL;have HK2:=I hk;clear HK hk hp g2;obtain⟨cl_0,cl_1,cl_2,cl_3,cl_4,cl_5,cl_6,cl_f⟩:=(hL).c7;have hLb:=hL.lt;cases ho2:E (q+1)with
      |out=>exact absurd (show R= .out by rw[←HQ.out,ho2];rfl) H.out.2.2
      | bad z=>
        go_wp2_with fail;go_region_with(go_at_call 67;refine(H.out.1 _ _ (h2.gbN (Aj (Ac _ _))) (by rw[ho2];simp)).mono ?_;rintro e w4 ⟨g4,h4⟩;rw[ho2]at h4;subst h4;refine DQ (P:=Tryz.prog) ⟨rfl,Post.bad (O (Aj HK2.out.gr) g4) (by rw[←HQ.out,ho2];rfl)⟩ ⟨#[],[]⟩ w4 ?_);all_goals trivial
      | ok z p=>
        go_wp2_with fail;go_region_with(go_at_call 67;refine(H.out.1 _ _ (h2.gbN (Aj (Ac _ _))) (by rw[ho2];simp)).mono ?_;rintro e w4 ⟨g4,h4⟩;rw[ho2]at h4;obtain⟨v,rfl,⟨za,zc,na,nc,rfl,zp,zl⟩,h4⟩:=h4;have hk4:=HK2.out.gb hb (O (Aj (Ac _ _)) g4) h4;have hL4:=hk4.blk;have hlt4:=hL4.lt;have HZ:=I (X hk4 (X zp zl));clear hk4 zp zl;obtain⟨dl_0,dl_1,dl_2,dl_3,dl_4,dl_5,dl_6,dl_f⟩:=(hL4).c7);all_goals
         have hin:∀g,w2.heap.size≤g→but w w1.heap.size g:=fun g hg=>⟨by omega,by omega⟩;have hK5:=HZ.out.1.two hb 6 [] (z:=z) (HZ.out.2.1.mono fun g hg _=>hin g hg) (HZ.out.2.2.mono fun g hg _=>hin g hg);have HQ2:=I (show(A8 l [93] p).bind (fun _ k=>Br l E n (CQ y z) k)=R by rw[←HQ.out,ho2];rfl);clear HZ HK2 cl_0 cl_1 cl_2 cl_3 cl_4 cl_5 cl_6 cl_f dl_0 dl_1 dl_2 dl_3 dl_4 dl_5 dl_6 dl_f hL hL4 HQ ho2 h4 h2;go_wp2_with fail;refine(Cc hK5.par [93]).mono ?_;rintro e w6 ⟨g6,h6⟩;cases hw:A8 l [93] p with
         |out=>rw[hw]at h6;exact h6.elim
         | bad f=>
           rw[hw]at h6;subst h6;exact⟨rfl,Post.bad (O hK5.gr g6) (by rw[←HQ2.out,hw];rfl)⟩
         | ok _ f=>
           rw[hw]at h6;obtain⟨v,rfl,rfl,h6⟩:=h6;have HQ3:=I (show Br l E n (CQ y z) f=R by rw[←HQ2.out,hw];rfl);clear HQ2 hw;go_wp2_with fail;go_roundg n
           case measure=>omega
           case rel=>exact⟨CQ y z,none,0,_,2,f,hK5.gb hb g6 h6,HQ3.out⟩
end
section
variable {b:Nat}{tv wv:Value}{l:List Tok}{wl:List Bs}
theorem Post.split{w w':World}{α:Type}{V:World→Value→α→Prop}{r:Res α}{e:Ending}(h:Post b tv wv l wl w V r e w'):
 w.grownBy w' (some b)∧((∃q,r= .bad q∧e= .panicked (D7 q))∨∃x j v,r= .ok x j∧e= .returned v∧V w' v x∧Par w' b tv wv l wl j):=by
 obtain⟨g,h⟩:=h;cases r with
 |out=>exact h.elim
 |bad q=>exact⟨g,.inl ⟨q,rfl,h⟩⟩
 | ok x j=>
   obtain⟨v,h1,h2,h3⟩:=h;exact⟨g,.inr ⟨x,j,v,rfl,h1,h2,h3⟩⟩
variable {w wr w1:World}{L j k:Nat}{x y z:Ex}{pa la ya ma:Option Addr}{pc lc yc mc:Nat}
theorem Kept.new(hb:b<w.heap.size)(gr:w.grownBy wr (some b))(hz:Blk wr w.heap.size zeroE 27)(hp:Par wr b tv wv l wl j)
 (rp:Cells wr (.slice pa x.h.p.length pc) 1 x.h.p.length (x.h.p.map str) (fun g=>w.heap.size<g)) (rl:RepL (fun g=>w.heap.size<g) wr (.slice la x.kids.len lc) x.kids) {n:Nat} (hn:n=wr.heap.size):
 Kept b tv wv l wl w n (wr.alloc (.cells (hdC x.h (.slice pa x.h.p.length pc) (.slice la x.kids.len lc)).toArray 27 (0,0))) x pa pc la lc j:=by
 subst hn;have g:=World.grownBy_alloc wr (.cells (hdC x.h (.slice pa x.h.p.length pc) (.slice la x.kids.len lc)).toArray 27 (0,0)) none;have hz1:=hz.lt;have hp1:=hp.lt;refine⟨hp.alloc _,Blk.new wr _ _,(rp.mono ?_).gb g (by simp),(rl.mono ?_).gb g (by simp),Aa gr _,hp1,hz1,hz.alloc _⟩;all_goals
  intro q hq hq2;exact⟨hq,by omega⟩
theorem Kept.leaf(hb:b<w.heap.size)(gr:w.grownBy wr (some b))(hz:Blk wr w.heap.size zeroE 27)(hp:Par wr b tv wv l wl j)(op:Int)(s:Bs){n:Nat}(hn:n=wr.heap.size):
 Kept b tv wv l wl w n (wr.alloc (.cells (hdC (hd0 op s) (.slice none 0 0) (.slice none 0 0)).toArray 27 (0,0))) ⟨hd0 op s,.nil⟩ none 0 none 0 j:=
 Kept.new (x:=⟨hd0 op s,.nil⟩) (pa:=none) (pc:=0) (la:=none) (lc:=0) hb gr hz hp (Cells.nil _ _ _) (RepL.nil _ _) hn
theorem Kept.one(hb:b<w.heap.size)(gr:w.grownBy wr (some b))(hz:Blk wr w.heap.size zeroE 27)(hp:Par wr b tv wv l wl j)(op:Int)(s:Bs)
 (zp:Cells wr (.slice ya z.h.p.length yc) 1 z.h.p.length (z.h.p.map str) (fun g=>w.heap.size<g)) (zl:RepL (fun g=>w.heap.size<g) wr (.slice ma z.kids.len mc) z.kids):
 Kept b tv wv l wl w (wr.heap.size+1) ((wr.alloc (.cells (hdC z.h (.slice ya z.h.p.length yc) (.slice ma z.kids.len mc)).toArray 27 (0,0))).alloc (.cells (hdC (hd0 op s) (.slice none 0 0) (.slice (some ⟨wr.heap.size,0,none⟩) 1 1)).toArray 27 (0,0)))
  ⟨hd0 op s,.one z⟩ none 0 (some ⟨wr.heap.size,0,none⟩) 1 j:=
 Kept.new (x:=⟨hd0 op s,.one z⟩) (pa:=none) (pc:=0) (lc:=1) hb (Aa gr _) (hz.alloc _) (hp.alloc _) (Cells.nil _ _ _) (RepL.one rfl (by have:=hz.lt;show w.heap.size<_;omega) zp zl) (by simp)
theorem Kept.kid1(h:Kept b tv wv l wl w L wr x pa pc la lc j)(hb:b<w.heap.size)(zp:Cells wr (.slice ya z.h.p.length yc) 1 z.h.p.length (z.h.p.map str) (but w L))(zl:RepL (but w L) wr (.slice ma z.kids.len mc) z.kids):
 Kept b tv wv l wl w L ((wr.setCell ⟨L,6,none⟩ (.slice (some ⟨wr.heap.size,0,none⟩) 1 1)).alloc (.cells (hdC z.h (.slice ya z.h.p.length yc) (.slice ma z.kids.len mc)).toArray 27 (0,0)))
  ⟨x.h,.one z⟩ pa pc (some ⟨wr.heap.size,0,none⟩) 1 j:=by
 have g7:wr.grownBy (wr.setCell ⟨L,6,none⟩ (.slice (some ⟨wr.heap.size,0,none⟩) 1 1)) (some L):=Ax (Ac _ _) _ _ (.inl rfl);have hsz:(wr.setCell ⟨L,6,none⟩ (.slice (some ⟨wr.heap.size,0,none⟩) 1 1)).heap.size=wr.heap.size:=by simp
 have hbL:=h.bL;have hwL:=h.wL;have hlt:=h.blk.lt;have hk:∀q,but w L q→q<wr.heap.size→some q≠some L:=fun q hq _ e=>by cases e;exact hq.2 rfl
 exact⟨(h.par.gb g7 (by intro q e;cases e;exact hbL)).alloc _,((h.blk.set 6 _).of_eq rfl rfl).alloc _,(h.rp.gb g7 hk).gb (World.grownBy_alloc _ _ none) (by simp),RepL.one hsz.symm ⟨by omega,by omega⟩ (zp.gb g7 hk) (zl.gb g7 hk),Aa (AN h.gr g7 (.inr (by omega))) _,hbL,hwL,(h.zero.gb g7 (by simp;omega)).alloc _⟩
theorem ES{L:Nat}(i:Nat)(v:Value):wr.grownBy (wr.setCell ⟨L,i,none⟩ v) (some L):=Ax (Ac _ _) _ _ (.inl rfl)
theorem Kept.kids(h:Kept b tv wv l wl w L wr x pa pc la lc j)(hb:b<w.heap.size){f:Fo}(rl:RepL (but w L) wr (.slice ma f.len mc) f):
 Kept b tv wv l wl w L (wr.setCell ⟨L,6,none⟩ (.slice ma f.len mc)) ⟨x.h,f⟩ pa pc ma mc j:=by
 have g7:wr.grownBy (wr.setCell ⟨L,6,none⟩ (.slice ma f.len mc)) (some L):=ES 6 _;have hbL:=h.bL;have hwL:=h.wL;have hlt:=h.blk.lt;have hk:∀q,but w L q→q<wr.heap.size→some q≠some L:=fun q hq _ e=>by cases e;exact hq.2 rfl
 exact⟨h.par.gb g7 (by intro q e;cases e;exact hbL),(h.blk.set 6 _).of_eq rfl rfl,h.rp.gb g7 hk,rl.gb g7 hk,AN h.gr g7 (.inr (by omega)),hbL,hwL,h.zero.gb g7 (by simp;omega)⟩
theorem Kept.names(h:Kept b tv wv l wl w L wr x pa pc la lc j)(hb:b<w.heap.size){p:List Bs}(rp:Cells wr (.slice ma p.length mc) 1 p.length (p.map str) (but w L)):
 Kept b tv wv l wl w L (wr.setCell ⟨L,5,none⟩ (.slice ma p.length mc)) ⟨{x.h with p:=p},x.kids⟩ ma mc la lc j:=by
 have g7:wr.grownBy (wr.setCell ⟨L,5,none⟩ (.slice ma p.length mc)) (some L):=ES 5 _;have hbL:=h.bL;have hwL:=h.wL;have hlt:=h.blk.lt;have hk:∀q,but w L q→q<wr.heap.size→some q≠some L:=fun q hq _ e=>by cases e;exact hq.2 rfl
 exact⟨h.par.gb g7 (by intro q e;cases e;exact hbL),(h.blk.set 5 _).of_eq rfl rfl,rp.gb g7 hk,h.rl.gb g7 hk,AN h.gr g7 (.inr (by omega)),hbL,hwL,h.zero.gb g7 (by simp;omega)⟩
theorem Kept.op(h:Kept b tv wv l wl w L wr x pa pc la lc j)(hb:b<w.heap.size)(op:Int):
 Kept b tv wv l wl w L (wr.setCell ⟨L,0,none⟩ (.int .i64 op)) ⟨{x.h with op:=op},x.kids⟩ pa pc la lc j:=by
 have g7:wr.grownBy (wr.setCell ⟨L,0,none⟩ (.int .i64 op)) (some L):=ES 0 _;have hbL:=h.bL;have hwL:=h.wL;have hlt:=h.blk.lt;have hk:∀q,but w L q→q<wr.heap.size→some q≠some L:=fun q hq _ e=>by cases e;exact hq.2 rfl
 exact⟨h.par.gb g7 (by intro q e;cases e;exact hbL),(h.blk.set 0 _).of_eq rfl rfl,h.rp.gb g7 hk,h.rl.gb g7 hk,AN h.gr g7 (.inr (by omega)),hbL,hwL,h.zero.gb g7 (by simp;omega)⟩
theorem Ld{E:Nat→Res Ex}(hE:CE 67 b tv wv l wl E)(hgo:CW E)(hl:Ce l)(n:Nat):CE 221 b tv wv l wl (BT l E n):=by
 intro w i hp ho;have hb:=hp.lt;have gr:w.grownBy (w.alloc (.cells zeroE.toArray 27 (0,0))) (some b):=Aa (Ac _ _) _;have hz:=Blk.new w zeroE 27;replace hp:=hp.alloc (.cells zeroE.toArray 27 (0,0));have H:=I (X hE (X hgo (X hl ho)));generalize hR:BT l E n i=R at*;have HQ:=I hR;rw[BT]at HQ;clear hE hgo hl ho hR;go_enter func221,ntmps221;go_wp2_with fail;refine(CA hp H.out.2.2.1).mono ?_;intro e w1 hq;obtain⟨g,⟨q,hr,rfl⟩| ⟨s,j,v,hr,rfl,rfl,hp⟩⟩:=hq.split
 ·exact⟨rfl,Post.bad (O gr g) (by rw[←HQ.out,hr];rfl)⟩
 replace gr:=O gr g;replace HQ:=HQr HQ (by rw[hr,Res.bind_ok]);clear hr;have hk:=Kept.leaf hb gr (hz.gb g (by simp;omega)) hp 3 s rfl;have HK:=I hk;have hs1:=hk.blk.lt;clear hk g hz;go_wp2_with fail;replace gr:=HK.out.gr;refine(Cc HK.out.par [40]).mono ?_;intro e w2 hq;obtain⟨g,⟨q,hr,rfl⟩| ⟨_,j2,v,hr,rfl,rfl,hp⟩⟩:=hq.split
 ·exact⟨rfl,Post.bad (O gr g) (by rw[←HQ.out,hr];rfl)⟩
 replace gr:=O gr g;replace HQ:=HQr HQ (by rw[hr,Res.bind_ok]);clear hr;have hk:=HK.out.gb hb g hp;cases hs:Ad (Z l j2) [41]with
 | true=>
   replace HQ:=HQr HQ (by rw[if_pos hs]);go_wp2_with fail;refine(Bj hp _ hs).mono ?_;rintro e w3 ⟨rfl,hp,g⟩;replace hk:=hk.gb hb g hp;have hL:=hk.blk;have hZ:=hk.zero;have hwL:=hk.wL;have HK:=I hk;clear hk hp;obtain⟨cl_0,cl_1,cl_2,cl_3,cl_4,cl_5,cl_6,cl_f⟩:=(hL).c7;obtain⟨cz_0,cz_1,cz_2,cz_3,cz_4,cz_5,cz_6,cz_f⟩:=(hZ).c7;go_wp2;have hk:=HK.out;exact bodyPost_ret (A3 rfl _ (hZ.set7 _ _ _ _ _ _ _) rfl) rfl (AT hb HQ.out.symm hk.gr ⟨_,_,_,_,rfl,hk.rp,hk.rl⟩ (by intro k hk;exact hk.1) hk.par (Av _ _ _ _ _ _ _ _ _))
 | false=>
   replace HQ:=HQr HQ (by rw[if_neg (ne_true_of_eq_false hs)]);go_wp2_with fail;refine(Be hp _ hs).mono ?_;rintro e w3 ⟨rfl,g⟩;replace hk:=hk.gbN hb g;replace hp:=hk.par;replace gr:=hk.gr;have hlt:=hk.blk.lt;have hwL:=hk.wL;go_wp2_with fail;refine(G1 H.out.1 H.out.2.1 hp n (fun e=>H.out.2.2.2 (by rw[←HQ.out,e];rfl))).mono ?_;intro e w4 hq;obtain⟨g,⟨q,hr,rfl⟩| ⟨f,j3,v,hr,rfl,⟨ma,mc,rfl,rl⟩,hp⟩⟩:=hq.split
   ·exact⟨rfl,Post.bad (O gr g) (by rw[←HQ.out,hr];rfl)⟩
   replace gr:=O gr g;replace HQ:=HQr HQ (by rw[hr,Res.bind_ok]);clear hr;replace hk:=hk.gb hb g hp;have hk2:=hk.kids hb (rl.mono fun g hg _=>(⟨by have:w3.heap.size≤g:=hg;omega,by have:w3.heap.size≤g:=hg;omega⟩:but w w1.heap.size g));have hL:=hk.blk;obtain⟨cl_0,cl_1,cl_2,cl_3,cl_4,cl_5,cl_6,cl_f⟩:=(hL).c7;clear hk rl;go_wp2_with fail;replace gr:=hk2.gr;refine(Cc hk2.par [41]).mono ?_;intro e w5 hq;obtain⟨g,⟨q,hr,rfl⟩| ⟨_,j4,v,hr,rfl,rfl,hp⟩⟩:=hq.split
   ·exact⟨rfl,Post.bad (O gr g) (by rw[←HQ.out,hr];rfl)⟩
   replace gr:=O gr g;replace HQ:=HQr HQ (by rw[hr,Res.bind_ok]);clear hr;have hk:=hk2.gb hb g hp;clear cl_0 cl_1 cl_2 cl_3 cl_4 cl_5 cl_6 cl_f hk2 hL g;have hL:=hk.blk;have hZ:=hk.zero;have hwL:=hk.wL;have HK:=I hk;clear hk hp;obtain⟨cl_0,cl_1,cl_2,cl_3,cl_4,cl_5,cl_6,cl_f⟩:=(hL).c7;obtain⟨cz_0,cz_1,cz_2,cz_3,cz_4,cz_5,cz_6,cz_f⟩:=(hZ).c7;go_wp2;have hk:=HK.out;exact bodyPost_ret (A3 rfl _ (hZ.set7 _ _ _ _ _ _ _) rfl) rfl (AT hb HQ.out.symm hk.gr ⟨_,_,_,_,rfl,hk.rp,hk.rl⟩ (by intro k hk;exact hk.1) hk.par (Av _ _ _ _ _ _ _ _ _))
theorem F_S{E:Nat→Res Ex}(hE:CE 67 b tv wv l wl E)(hl:Ce l):CE 258 b tv wv l wl (BO l E):=by
 intro w i hp ho;have hb:=hp.lt;have gr:w.grownBy (w.alloc (.cells zeroE.toArray 27 (0,0))) (some b):=Aa (Ac _ _) _;have hz:=Blk.new w zeroE 27;replace hp:=hp.alloc (.cells zeroE.toArray 27 (0,0));have H:=I (X hE (X hl ho));generalize hR:BO l E i=R at*;have HQ:=I hR;rw[BO]at HQ;clear hE hl ho hR;go_enter func258,ntmps258;go_wp2_with fail;refine(Cc hp [38]).mono ?_;intro e w1 hq;obtain⟨g,⟨q,hr,rfl⟩| ⟨_,j,v,hr,rfl,rfl,hp⟩⟩:=hq.split
 ·exact⟨rfl,Post.bad (O gr g) (by rw[←HQ.out,hr];rfl)⟩
 replace gr:=O gr g;replace HQ:=HQr HQ (by rw[hr,Res.bind_ok]);clear hr;replace hz:=hz.gb g (by simp;omega);cases hs:Ad (Z l j) [40]with
 | true=>
   replace HQ:=HQr HQ (by rw[if_pos hs]);go_wp2_with fail;refine(Bj hp _ hs).mono ?_;rintro e w2 ⟨rfl,hp,g⟩;replace hz:=hz.gb g (by simp;omega);replace gr:=O gr g;have hs2:=hz.lt;clear g;go_wp2_with fail;refine(H.out.1 _ _ hp (fun e=>H.out.2.2 (by rw[←HQ.out,e];rfl))).mono ?_;intro e w3 hq;obtain⟨g,⟨q,hr,rfl⟩| ⟨x,j2,v,hr,rfl,⟨pa,pc,la,lc,rfl,rp,rl⟩,hp⟩⟩:=hq.split
   ·exact⟨rfl,Post.bad (O gr g) (by rw[←HQ.out,hr];rfl)⟩
   replace gr:=O gr g;replace HQ:=HQr HQ (by rw[hr,Res.bind_ok]);clear hr;replace hz:=hz.gb g (by simp;omega);have hk:=Kept.one hb gr hz hp 9 [] (rp.mono fun g hg _=>by have:w2.heap.size≤g:=hg;show w.heap.size<g;omega) (rl.mono fun g hg _=>by have:w2.heap.size≤g:=hg;show w.heap.size<g;omega);clear rp rl hz g;go_wp2_with fail;replace gr:=hk.gr;refine(Cc hk.par [41]).mono ?_;intro e w4 hq;obtain⟨g,⟨q,hr,rfl⟩| ⟨_,j3,v,hr,rfl,rfl,hp⟩⟩:=hq.split
   ·exact⟨rfl,Post.bad (O gr g) (by rw[←HQ.out,hr];rfl)⟩
   replace gr:=O gr g;replace HQ:=HQr HQ (by rw[hr,Res.bind_ok]);clear hr;replace hk:=hk.gb hb g hp;clear g;have hL:=hk.blk;have hZ:=hk.zero;have hwL:=hk.wL;have HK:=I hk;clear hk hp;obtain⟨cl_0,cl_1,cl_2,cl_3,cl_4,cl_5,cl_6,cl_f⟩:=(hL).c7;obtain⟨cz_0,cz_1,cz_2,cz_3,cz_4,cz_5,cz_6,cz_f⟩:=(hZ).c7;go_wp2;have hk:=HK.out;exact bodyPost_ret (A3 rfl _ (hZ.set7 _ _ _ _ _ _ _) rfl) rfl (AT hb HQ.out.symm hk.gr ⟨_,_,_,_,rfl,hk.rp,hk.rl⟩ (by intro k hk;exact hk.1) hk.par (Av _ _ _ _ _ _ _ _ _))
 | false=>
   replace HQ:=HQr HQ (by rw[if_neg (ne_true_of_eq_false hs)]);go_wp2_with fail;refine(Be hp _ hs).mono ?_;rintro e w2 ⟨rfl,g⟩;replace hz:=hz.gb g (by simp);replace gr:=Ae gr g;replace hp:=hp.gbN g;clear g;go_wp2_with fail;refine(CA hp H.out.2.1).mono ?_;intro e w3 hq;obtain⟨g,⟨q,hr,rfl⟩| ⟨s,j2,v,hr,rfl,rfl,hp⟩⟩:=hq.split
   ·exact⟨rfl,Post.bad (O gr g) (by rw[←HQ.out,hr];rfl)⟩
   replace gr:=O gr g;replace HQ:=HQr HQ (by rw[hr,Res.bind_ok]);clear hr;replace hz:=hz.gb g (by simp;omega);have hk:=Kept.leaf hb gr hz hp 9 s rfl;clear hz g;have hs3:=hk.blk.lt;cases hs:Ad (Z l j2) [46]with
   | true=>
     replace HQ:=HQr HQ (by rw[if_pos hs]);go_wp2_with fail;refine(Bj hk.par _ hs).mono ?_;rintro e w4 ⟨rfl,hp,g⟩;replace hk:=hk.gb hb g hp;have hL:=hk.blk;have hZ:=hk.zero;have hwL:=hk.wL;have HK:=I hk;clear hk hp;obtain⟨cl_0,cl_1,cl_2,cl_3,cl_4,cl_5,cl_6,cl_f⟩:=(hL).c7;obtain⟨cz_0,cz_1,cz_2,cz_3,cz_4,cz_5,cz_6,cz_f⟩:=(hZ).c7;go_wp2;have hk:=HK.out;exact bodyPost_ret (A3 rfl _ (hZ.set7 _ _ _ _ _ _ _) rfl) rfl (AT hb HQ.out.symm hk.gr ⟨_,_,_,_,rfl,hk.rp,hk.rl⟩ (by intro k hk;exact hk.1) hk.par (Av _ _ _ _ _ _ _ _ _))
   | false=>
     replace HQ:=HQr HQ (by rw[if_neg (ne_true_of_eq_false hs)]);go_wp2_with fail;refine(Be hk.par _ hs).mono ?_;rintro e w4 ⟨rfl,g⟩;replace hk:=hk.gbN hb g;have hL:=hk.blk;have hZ:=hk.zero;have hwL:=hk.wL;have HK:=I hk;clear hk hp;obtain⟨cl_0,cl_1,cl_2,cl_3,cl_4,cl_5,cl_6,cl_f⟩:=(hL).c7;obtain⟨cz_0,cz_1,cz_2,cz_3,cz_4,cz_5,cz_6,cz_f⟩:=(hZ).c7;go_wp2;have hk:=HK.out;exact bodyPost_ret (A3 rfl _ (hZ.set7 _ _ _ _ _ _ _) rfl) rfl (AT hb HQ.out.symm hk.gr ⟨_,_,_,_,rfl,hk.rp,hk.rl⟩ (by intro k hk;exact hk.1) hk.par (Av _ _ _ _ _ _ _ _ _))
end
end Go.Proofs.YtgjdhajcnechdaaGreatDoor
