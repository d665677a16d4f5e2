/-
  Contracts of the parser: variable, names, unary, list. Contracts of the parser: list, unary. Contracts of the parser: unary.
-/
import Derived.Test.YtgjdhajcnechdaaGreatDoorSw07
import Derived.Test.YtgjdhajcnechdaaGreatDoorSw05
set_option linter.all false
set_option maxRecDepth 100000
set_option maxHeartbeats 8000000
namespace Go.Proofs.YtgjdhajcnechdaaGreatDoor
open Go.Proofs.Tryz
open Go.RowKit
section
variable {b:Nat}{tv wv:Value}{l:List Tok}{wl:List Bs}
theorem Io{w:World}{i:Nat}(h:Par w b tv wv l wl i)(hl:CD l):
 Calls Tryz.prog 311 #[.pointer (some ⟨b,0,none⟩)] w (Post b tv wv l wl w (fun _ v x=>v=str x) (AV l i)):=by
 have hb:=h.lt;have c3:=h.c3;have HL:=O hl;clear hl;go_enter func311,ntmps311;go_wp2_with fail;go_region_with(first| (go_at_call 111;refine(Cl (h.gbN (Am (Ac _ _)))).mono ?_;rintro e w1 ⟨rfl,g1⟩;have h1:=h.gbN (Aa (Am (Ac _ _)) g1);have d3:=h1.c3)| (go_at_call 52;refine(slices_Contains_string_empty _ _ _ _).mono ?_;rintro e w2 ⟨rfl,rfl⟩));all_goals
  have gA:=Aa (Am (Ac w none)) g1;go_wp2_with fail;refine(Dz h1 HL.out).mono ?_;rintro e w2 ⟨g2,h2⟩;cases hr:AV l i with
  |out=>rw[hr]at h2;exact h2.elim
  | bad q=>
    rw[hr]at h2;subst h2;exact⟨rfl,Post.bad (Aa (AX gA) g2) hr⟩
  | ok x j=>
    rw[hr]at h2;obtain⟨v,rfl,rfl,h2⟩:=h2;have HR:=O hr;clear hr;go_wp2;go_ret;exact Post.ok (Aa (AX gA) g2) HR.out rfl h2
theorem Fp{w:World}{base e size n m:Nat}{cs:List Value}(hm:m=w.heap.size)(hb:base≤w.heap.size)(h:cs.length=n*size)(hn:n≤maxLen):(w.alloc (.cells cs.toArray e (0,0))).ownsRow base e size (.slice (some ⟨m,0,none⟩) n n) n cs:=by
 subst hm;exact⟨h,.inr ⟨_,_,cs.toArray,rfl,hb,heap_alloc_new w _,Nat.le_refl _,hn,by simpa using h,by simp[←h]⟩⟩
def VS(B:Nat)(w:World)(v:Value)(p:List Bs):Prop:=∃pa pc,v= .slice pa p.length pc∧Cells w v 1 p.length (p.map str) (A8 B)
theorem VS.of_owns{w:World}{B:Nat}{v:Value}{p:List Bs}(h:w.ownsRow B 9 1 v p.length (p.map str)):VS B w v p:=by
 have hc:=AU h;obtain⟨a,cap,e,_⟩:=id hc;exact⟨a,cap,e,hc⟩
def So(l:List Tok)(wl:List Bs)(b:Nat)(tv wv:Value)(w:World)(r:Res (List Bs))(m:Nat)(v:Value)(wr:World):Prop:=
 ∃acc j,wr.ownsRow w.heap.size 9 1 v acc.length (acc.map str)∧Par wr b tv wv l wl j∧BS l m acc j=r∧w.grownBy wr (some b)∧acc.length≤j∧acc≠[]
theorem Pp{w:World}{i:Nat}(h:Par w b tv wv l wl i)(hl:CD l)(n:Nat)(ho:Cu l n i ≠ .out):
 Calls Tryz.prog 185 #[.pointer (some ⟨b,0,none⟩)] w (Post b tv wv l wl w (VS w.heap.size) (Cu l n i)):=by
 have hb:=h.lt;have hf:=h.few;generalize hR:Cu l n i=R at*;have H:=O (Z hl (Z ho hR));clear hl ho hR;go_enter func185,ntmps185;go_wp2_with fail;refine(Dz h H.out.1).mono ?_;rintro e w1 ⟨g1,h1⟩;cases hr:AV l i with
 |out=>rw[hr]at h1;exact h1.elim
 | bad q=>
   rw[hr]at h1;subst h1;exact⟨rfl,Post.bad g1 (by rw[←H.out.2.2,Cu,hr];rfl)⟩
 | ok x j=>
   rw[hr]at h1;obtain⟨v,rfl,rfl,h1⟩:=h1;have HR:=O (show BS l n [x] j=R by rw[←H.out.2.2,Cu,hr];rfl);have hj:1≤j:=by
    unfold AV at hr;split at hr
    ·cases hr;omega
    ·cases hr
   have hs1:=g1.size;have ho1:(w1.alloc (.cells [str x].toArray 9 (0,0))).ownsRow w.heap.size 9 1 (.slice (some ⟨w1.heap.size,0,none⟩) 1 1) 1 [str x]:=Fp rfl hs1 rfl (by decide);have h1':=h1.alloc (.cells [str x].toArray 9 (0,0));have g1':=Ad g1 (.cells [str x].toArray 9 (0,0));clear hr;go_wp2_with fail;go_loopg [3] n (fun m v wr=>So l wl b tv wv w R m v wr)
   case atStart=>exact⟨[x],j,ho1,h1',HR.out,g1',hj,by simp⟩
   case round=>
    obtain⟨acc,q,hown,hp,hloop,gr,hlen,hne⟩:=hrel;clear ho1 h1' g1' h1 g1;have hj2:=hp.le;cases gk with
    |zero=>exact absurd hloop.symm H.out.2.1
    |succ m=>
    cases hs:Ae (Ab l q) [44]with
    | false=>
      have HQ:=O (show R= .ok acc q by rw[←hloop];simp[BS,hs]);have HO:=O hown;have HS:=O hs;clear hloop hs hown;go_wp2_with fail;refine(Bu hp _ HS.out).mono ?_;rintro e w2 ⟨rfl,g2⟩;have h2:=hp.gbN g2;go_wp2;go_ret;exact Post.ok (Ag gr g2) HQ.out (VS.of_owns (C2 HO.out g2 (by simp))) h2
    | true=>
      have HQ:=O (show(AV l (q+1)).bind (fun y j=>BS l m (acc++[y]) j)=R by rw[←hloop];simp[BS,hs]);have HO:=O hown;have HS:=O hs;clear hloop hs hown;go_wp2_with fail;refine(B1 hp _ HS.out).mono ?_;rintro e w2 ⟨rfl,h2,g2⟩;go_wp2_with fail;refine(Dz h2 H.out.1).mono ?_;rintro e w3 ⟨g3,h3⟩;cases hr2:AV l (q+1)with
      |out=>rw[hr2]at h3;exact h3.elim
      | bad z=>
        rw[hr2]at h3;subst h3;exact⟨rfl,Post.bad (Aa (Aa gr g2) g3) (by rw[←HQ.out,hr2];rfl)⟩
      | ok y z=>
        rw[hr2]at h3;obtain⟨v',rfl,rfl,h3⟩:=h3;have hz:q+2≤z:=by
         unfold AV at hr2;split at hr2
         ·cases hr2;omega
         ·cases hr2
        have HQ2:=O (show BS l m (acc++[y]) z=R by rw[←HQ.out,hr2];rfl);have g23:=Aa g2 g3;have hown3:=C2 HO.out g23 (by intro k hk _ e;cases e;omega);have hown4:=hown3.alloc (.cells [str y].toArray 9 (0,0));have hlen2:=h3.le;have gA:=Ad (Aa gr g23) (.cells [str y].toArray 9 (0,0));have hA:=h3.alloc (.cells [str y].toArray 9 (0,0));have hbs:=gA.size;obtain⟨i0,hi,hz0,hz1,hz2⟩:=info_parts C0;have hnc:=BZ w3 [str y] 9;have hml:acc.length+1≤maxLen:=by unfold maxLen;omega
        clear hr2 hown3;have HX:=O (Z hi (Z hz0 (Z hz1 (Z hz2 (Z hnc (Z hml hown4))))));clear hi hz0 hz1 hz2 hnc hml hown4;go_wp2_with (at_builtin;obtain⟨hi,hz0,hz1,hz2,hnc,hml,hown4⟩:=HX.out;refine D7 rfl _ _ 24 rfl w.heap.size 9 i0 (str []) 1 16 underlying24 hi hz0 hz1 hz2 rfl (by decide) _ _ _ rfl hown4 ⟨w3.heap.size,0,none⟩ 1 1 [str y] rfl rfl hnc (by simp[Value.oneCell']) hml (by omega) hbs ?_;intro v' w5 hown5 g5 _;clear hi hz0 hz1 hz2 hnc hml hown4);have HO5:=O hown5;clear hown5;go_roundg m
        case measure=>omega
        case rel=>
         have hob:∀k,u3.ownBlock=some k→b<k:=fun k hk=>by have:=(HO.out.lt k hk).1;omega
         have hob2:∀k,u3.ownBlock=some k→w.heap.size≤k:=fun k hk=>(HO.out.lt k hk).1;refine⟨acc++[y],z,by simpa using HO5.out,hA.gb g5 hob,HQ2.out,?_,by simp;omega,by simp⟩;have g5':World.grownBy (w3.alloc _) w5 u3.ownBlock:=g5;cases hv:u3.ownBlock with
         |none=>rw[hv]at g5';exact Ag gA g5'
         |some k=>rw[hv]at g5';exact A9 gA g5' (.inr (hob2 k hv))
end
section
variable {b:Nat}{tv wv:Value}{l:List Tok}{wl:List Bs}
def VL(B:Nat)(w:World)(v:Value)(f:Fo):Prop:=∃la lc,v= .slice la f.len lc∧RepL (A8 B) w v f
theorem VL.of_owns{w:World}{B:Nat}{v:Value}{f:Fo}(h:OwnF w B v f):VL B w v f:=by
 obtain⟨cs,h1,h2⟩:=id h;obtain⟨a,cap,e,_⟩:=AU h1;exact⟨a,cap,e,h.rep⟩
def ListR(l:List Tok)(wl:List Bs)(E:Nat→Res Ex)(b:Nat)(tv wv:Value)(w:World)(r:Res Fo)(m:Nat)(v:Value)(wr:World):Prop:=
 ∃acc j,OwnF wr w.heap.size v acc∧Par wr b tv wv l wl j∧BQ l E m acc j=r∧w.grownBy wr (some b)∧acc.len≤j
def Ej(E:Nat→Res Ex):Prop:=∀i x j,E i= .ok x j→i<j
theorem JD{E:Nat→Res Ex}(hE:CE 67 b tv wv l wl E)(hgo:Ej E){w:World}{i:Nat}(h:Par w b tv wv l wl i)(n:Nat)(ho:Cr l E n i ≠ .out):
 Calls Tryz.prog 220 #[.pointer (some ⟨b,0,none⟩)] w (Post b tv wv l wl w (VL w.heap.size) (Cr l E n i)):=by
 have hb:=h.lt;have hf:=h.few;generalize hR:Cr l E n i=R at*;have H:=O (Z hE (Z ho (Z hR hgo)));clear hE ho hR hgo;go_enter func220,ntmps220;go_wp2_with fail;refine(H.out.1 _ _ h (fun e=>H.out.2.1 (by rw[←H.out.2.2.1,Cr,e];rfl))).mono ?_;rintro e w1 ⟨g1,h1⟩;cases hr:E i with
 |out=>rw[hr]at h1;exact h1.elim
 | bad q=>
   rw[hr]at h1;subst h1;exact⟨rfl,Post.bad g1 (by rw[←H.out.2.2.1,Cr,hr];rfl)⟩
 | ok x j=>
   rw[hr]at h1;obtain⟨v,rfl,⟨pa,pc,la,lc,rfl,rp,rl⟩,h1⟩:=h1;have HR:=O (show BQ l E n (.one x) j=R by rw[←H.out.2.2.1,Cr,hr];rfl);have hj:1≤j:=by have:=H.out.2.2.2 _ _ _ hr;omega
   have hs1:=g1.size;have hlt:=h1.lt;have ho1:OwnF (w1.alloc (.cells (hdC x.h (.slice pa x.h.p.length pc) (.slice la x.kids.len lc)).toArray 27 (0,0))) w.heap.size (.slice (some ⟨w1.heap.size,0,none⟩) 1 1) (.one x):=by
    have g:=World.grownBy_alloc w1 (.cells (hdC x.h (.slice pa x.h.p.length pc) (.slice la x.kids.len lc)).toArray 27 (0,0)) none;refine⟨_,Fp rfl hs1 rfl (by decide),RepF.gb g (by simp) (RepF.mono (ok:=A8 w.heap.size) ?_ (VE.rep rp rl))⟩;intro k hk hk2;exact⟨hk,by simp[Value.ownBlock];omega⟩
   have HO:=O ho1;have h1':=h1.alloc (.cells (hdC x.h (.slice pa x.h.p.length pc) (.slice la x.kids.len lc)).toArray 27 (0,0));have g1':=Ad g1 (.cells (hdC x.h (.slice pa x.h.p.length pc) (.slice la x.kids.len lc)).toArray 27 (0,0));clear hr ho1 rp rl;go_wp2_with fail;go_loopg [3] n (fun m v wr=>ListR l wl E b tv wv w R m v wr)
   case atStart=>exact⟨.one x,j,HO.out,h1',HR.out,g1',hj⟩
   case round=>
    obtain⟨acc,q,hown,hp,hloop,gr,hlen⟩:=hrel;clear HO h1' g1' h1 g1;have hj2:=hp.le;cases gk with
    |zero=>exact absurd hloop.symm H.out.2.1
    |succ m=>
    cases hs:Ae (Ab l q) [44]with
    | false=>
      have HQ:=O (show R= .ok acc q by rw[←hloop];simp[BQ,hs]);have HO:=O hown;have HS:=O hs;clear hloop hs hown;go_wp2_with fail;refine(Bu hp _ HS.out).mono ?_;rintro e w2 ⟨rfl,g2⟩;have h2:=hp.gbN g2;go_wp2;go_ret;exact Post.ok (Ag gr g2) HQ.out (VL.of_owns (HO.out.gb g2 (by simp))) h2
    | true=>
      have HQ:=O (show(E (q+1)).bind (fun y j=>BQ l E m (acc.snoc y) j)=R by rw[←hloop];simp[BQ,hs]);have HO:=O hown;have HS:=O hs;clear hloop hs hown;go_wp2_with fail;refine(B1 hp _ HS.out).mono ?_;rintro e w2 ⟨rfl,h2,g2⟩;go_wp2_with fail;refine(H.out.1 _ _ h2 (fun e=>H.out.2.1 (by rw[←HQ.out,e];rfl))).mono ?_;rintro e w3 ⟨g3,h3⟩;cases hr2:E (q+1)with
      |out=>rw[hr2]at h3;exact h3.elim
      | bad z=>
        rw[hr2]at h3;subst h3;exact⟨rfl,Post.bad (Aa (Aa gr g2) g3) (by rw[←HQ.out,hr2];rfl)⟩
      | ok y z=>
        rw[hr2]at h3;obtain⟨v',rfl,⟨ya,yc,ma,mc,rfl,ry,rm⟩,h3⟩:=h3;have hz:q+1<z:=H.out.2.2.2 _ _ _ hr2;have HQ2:=O (show BQ l E m (acc.snoc y) z=R by rw[←HQ.out,hr2];rfl);have g23:=Aa g2 g3;obtain⟨cs,hown3,hrep3⟩:=HO.out.gb g23 (by intro k hk _ e;cases e;omega);have hown4:=hown3.alloc (.cells (hdC y.h (.slice ya y.h.p.length yc) (.slice ma y.kids.len mc)).toArray 27 (0,0));have hlen2:=h3.le;have gB:=World.grownBy_alloc w3 (.cells (hdC y.h (.slice ya y.h.p.length yc) (.slice ma y.kids.len mc)).toArray 27 (0,0)) none;have gA:=Ad (Aa gr g23) (.cells (hdC y.h (.slice ya y.h.p.length yc) (.slice ma y.kids.len mc)).toArray 27 (0,0));have hA:=h3.alloc (.cells (hdC y.h (.slice ya y.h.p.length yc) (.slice ma y.kids.len mc)).toArray 27 (0,0));have hbs:=gA.size;have hs23:=g2.size;have hsr:=gr.size;have hol:∀k,u3.ownBlock=some k→w.heap.size≤k∧k<wr.heap.size:=fun k hk=>by
         obtain⟨cs0,ho0,_⟩:=HO.out;exact ho0.lt k hk
        obtain⟨i0,hi,hz0,hz1,hz2⟩:=info_parts CM;have hnc:=BZ w3 (hdC y.h (.slice ya y.h.p.length yc) (.slice ma y.kids.len mc)) 27;have hml:acc.len+1≤maxLen:=by unfold maxLen;omega
        have HY:=O (Z (hrep3.gb gB (by simp)) (Z (ry.gb gB (by simp)) (rm.gb gB (by simp))));have HX:=O (Z hi (Z hz0 (Z hz1 (Z hz2 (Z hnc (Z hml (Z hown4 hol)))))));clear hr2 hown3 hrep3 ry rm hi hz0 hz1 hz2 hnc hml hown4 hol;go_wp2_with (at_builtin;obtain⟨hi,hz0,hz1,hz2,hnc,hml,hown4,hol⟩:=HX.out;refine D7 rfl _ _ 25 rfl w.heap.size 27 i0 _ 7 104 underlying25 hi hz0 hz1 hz2 rfl (by decide) _ _ _ rfl hown4 ⟨w3.heap.size,0,none⟩ 1 1 (hdC y.h (.slice ya y.h.p.length yc) (.slice ma y.kids.len mc)) rfl rfl hnc (by simp[hdC,Value.oneCell']) hml (by omega) hbs ?_;intro v' w5 hown5 g5 hn5;clear hi hz0 hz1 hz2 hnc hml hown4 hol);have HO5:=O (Z hown5 hn5);clear hown5 hn5;go_roundg m
        case measure=>omega
        case rel=>
         have hol:=HX.out.2.2.2.2.2.2.2;have g5':World.grownBy (w3.alloc _) w5 u3.ownBlock:=g5;refine⟨acc.snoc y,z,?_,hA.gb g5' (fun k hk=>by have:=(hol k hk).1;omega),HQ2.out,?_,by rw[Fo.len_snoc];omega⟩
         ·exact OwnF.snoc (v:=u3) (okx:=A8 w2.heap.size) HY.out.1 rfl HY.out.2.1 HY.out.2.2 (by intro k hk;have hk:w2.heap.size≤k:=hk;exact⟨by omega,fun e=>by have:=(hol k e).2;omega⟩) HO5.out.1 g5' HO5.out.2
         ·cases hv:u3.ownBlock with
          |none=>rw[hv]at g5';exact Ag gA g5'
          |some k=>rw[hv]at g5';exact A9 gA g5' (.inr (hol k hv).1)
end
section
variable {b:Nat}{tv wv:Value}{l:List Tok}{wl:List Bs}
abbrev but(w:World)(L:Nat):Nat→Prop:=fun g=>w.heap.size<g∧g≠L
structure Kept(b:Nat)(tv wv:Value)(l:List Tok)(wl:List Bs)(w:World)(L:Nat)(wr:World)(x:Ex)(pa:Option Addr)(pc:Nat)(la:Option Addr)(lc:Nat)(j:Nat):Prop where
 par:Par wr b tv wv l wl j
 blk:Blk wr L (hdC x.h (.slice pa x.h.p.length pc) (.slice la x.kids.len lc)) 27
 rp:Cells wr (.slice pa x.h.p.length pc) 1 x.h.p.length (x.h.p.map str) (but w L)
 rl:RepL (but w L) wr (.slice la x.kids.len lc) x.kids
 gr:w.grownBy wr (some b)
 bL:b<L
 wL:w.heap.size<L
 zero:Blk wr w.heap.size zeroE 27
variable {w wr w1:World}{L j k:Nat}{x y z:Ex}{pa la ya ma:Option Addr}{pc lc yc mc:Nat}
theorem Kept.gb(h:Kept b tv wv l wl w L wr x pa pc la lc j)(hb:b<w.heap.size)(g:wr.grownBy w1 (some b))(hp:Par w1 b tv wv l wl k):Kept b tv wv l wl w L w1 x pa pc la lc k:=
 ⟨hp,h.blk.gb g (by have:=h.bL;simp;omega),h.rp.gb g (by intro q hq _ e;cases e;have:=hq.1;omega),h.rl.gb g (by intro q hq _ e;cases e;have:=hq.1;omega),Aa h.gr g,h.bL,h.wL,h.zero.gb g (by simp;omega)⟩
theorem Kept.gbN(h:Kept b tv wv l wl w L wr x pa pc la lc j)(hb:b<w.heap.size)(g:wr.grownBy w1 none):Kept b tv wv l wl w L w1 x pa pc la lc j:=
 h.gb hb (AX g) (h.par.gbN g)
theorem Kept.two(h:Kept b tv wv l wl w L wr x pa pc la lc j)(hb:b<w.heap.size)(op:Int)(s:Bs)(zp:Cells wr (.slice ya z.h.p.length yc) 1 z.h.p.length (z.h.p.map str) (but w L))(zl:RepL (but w L) wr (.slice ma z.kids.len mc) z.kids):
 Kept b tv wv l wl w L ((set7 wr L (.int .i64 op) (str s) (.int .i64 0) (.int .i64 0) (str []) (.slice none 0 0) (.slice (some ⟨wr.heap.size,0,none⟩) 2 2)).alloc (.cells (hdC x.h (.slice pa x.h.p.length pc) (.slice la x.kids.len lc)++hdC z.h (.slice ya z.h.p.length yc) (.slice ma z.kids.len mc)).toArray 27 (0,0)))
  ⟨hd0 op s,.two x z⟩ none 0 (some ⟨wr.heap.size,0,none⟩) 2 j:=by
 have g7:=Ah wr L (.int .i64 op) (str s) (.int .i64 0) (.int .i64 0) (str []) (.slice none 0 0) (.slice (some ⟨wr.heap.size,0,none⟩) 2 2);have hsz:(set7 wr L (.int .i64 op) (str s) (.int .i64 0) (.int .i64 0) (str []) (.slice none 0 0) (.slice (some ⟨wr.heap.size,0,none⟩) 2 2)).heap.size=wr.heap.size:=by simp[set7]
 have hbL:=h.bL;have hwL:=h.wL;have hlt:=h.blk.lt;have hk:∀q,but w L q→q<wr.heap.size→some q≠some L:=fun q hq _ e=>by cases e;exact hq.2 rfl
 refine⟨(h.par.gb g7 (by intro q e;cases e;exact hbL)).alloc _,((h.blk.set7 _ _ _ _ _ _ _).of_eq rfl rfl).alloc _,Cells.nil _ 1 _,?_,Ad (A9 h.gr g7 (.inr (by omega))) _,hbL,hwL,?_⟩
 ·exact RepL.two hsz.symm ⟨by omega,by omega⟩ (h.rp.gb g7 hk) (h.rl.gb g7 hk) (zp.gb g7 hk) (zl.gb g7 hk)
 ·exact(h.zero.gb g7 (by simp;omega)).alloc _
def IdxR(l:List Tok)(wl:List Bs)(E:Nat→Res Ex)(b:Nat)(tv wv:Value)(w:World)(L:Nat)(r:Res Ex)(m:Nat)(wr:World):Prop:=
 ∃x pa pc la lc j,Kept b tv wv l wl w L wr x pa pc la lc j∧B8 l E m x j=r
theorem Qh{E prim:Nat→Res Ex}(hE:CE 67 b tv wv l wl E)(hP:CE 278 b tv wv l wl prim):∀m,CE 244 b tv wv l wl (Bm l E prim m):=by
 intro m;induction m with
 |zero=>intro w i h ho;exact absurd rfl ho
 |succ m ih=>
 intro w i h ho;have hb:=h.lt;have gz:w.grownBy (w.alloc (.cells zeroE.toArray 27 (0,0))) (some b):=Ad (Ac _ _) _;have hz:=Blk.new w zeroE 27;have hp:=h.alloc (.cells zeroE.toArray 27 (0,0));by_cases hn1:Ae (Ab l i) [45]=true
 ·have H:=O (Z ih ho);have HN:=O (Z True.intro hn1);generalize hR:Bm l E prim (m+1) i=R at*;have hR':(Bm l E prim m (i+1)).bind (fun x j=> .ok (unE [45] x) j)=R:=by rw[←hR];simp[Bm,hn1]
  have HR:=O hR';clear hR hR' hn1 hE hP ih ho;go_enter func244,ntmps244;go_wp2_with fail;refine(B1 hp _ HN.out.2).mono ?_;rintro e wb ⟨rfl,h0,gb⟩;have g0:w.grownBy wb (some b):=Aa gz gb;have hB:=Blk.gb hz gb (by simp;omega);have hw0:w.heap.size<wb.heap.size:=by have:=gb.size;simp at*;omega
  clear hz hp gb gz;go_wp2_with fail;refine(H.out.1 _ _ h0 (fun e=>H.out.2 (by rw[←HR.out,e];rfl))).mono ?_;rintro e w1 ⟨g1,h1⟩;cases ho:Bm l E prim m (i+1)with
  |out=>rw[ho]at h1;exact h1.elim
  | bad q=>
    rw[ho]at h1;subst h1;exact⟨rfl,Post.bad (Aa g0 g1) (by rw[←HR.out,ho];rfl)⟩
  | ok x j=>
    rw[ho]at h1;obtain⟨v,rfl,⟨pa,pc,la,lc,rfl,rp,rl⟩,h1⟩:=h1;have hs1:=g1.size;have hb1:=h1.lt;have hlt1:w.heap.size<w1.heap.size:=by omega
    have hZ:=hB.gb g1 (by simp;omega);have hQ:R= .ok (unE [45] x) j:=by rw[←HR.out,ho];rfl
    have H2:=O (Z rp (Z rl hQ));clear rp rl hQ hB h0;obtain⟨cz_0,cz_1,cz_2,cz_3,cz_4,cz_5,cz_6,cz_f⟩:=(hZ).c7;go_wp2;obtain⟨rp,rl,hQ⟩:=H2.out;have g7:=Ah w1 w.heap.size (.int .i64 4) (str [45]) (.int .i64 0) (.int .i64 0) (str []) (.slice none 0 0) (.slice (some ⟨w1.heap.size,0,none⟩) 1 1);have hW:=hZ.set7 (.int .i64 4) (str [45]) (.int .i64 0) (.int .i64 0) (str []) (.slice none 0 0) (.slice (some ⟨w1.heap.size,0,none⟩) 1 1);have hsz:(set7 w1 w.heap.size (.int .i64 4) (str [45]) (.int .i64 0) (.int .i64 0) (str []) (.slice none 0 0) (.slice (some ⟨w1.heap.size,0,none⟩) 1 1)).heap.size=w1.heap.size:=by simp[set7]
    simp only[set7]at hW g7 hsz;generalize(((((((w1.setCell {block:=w.heap.size,off:=0} (.int .i64 4)).setCell {block:=w.heap.size,off:=1} (str [45])).setCell {block:=w.heap.size,off:=2} (.int .i64 0)).setCell {block:=w.heap.size,off:=3} (.int .i64 0)).setCell {block:=w.heap.size,off:=4} (str [])).setCell {block:=w.heap.size,off:=5} (.slice none 0 0)).setCell {block:=w.heap.size,off:=6} (.slice (some ⟨w1.heap.size,0,none⟩) 1 1))=W at*;exact bodyPost_ret (Al (hd:=hd0 4 [45]) (pv:= .slice none 0 0) (lv:= .slice (some ⟨w1.heap.size,0,none⟩) 1 1) rfl _ (Blk.alloc hW (Obj.cells #[Value.int IntKind.i64 x.h.op,str x.h.s,Value.int IntKind.i64 x.h.vk,Value.int IntKind.i64 x.h.vn,str x.h.vs,Value.slice pa x.h.p.length pc,Value.slice la x.kids.len lc] 27)) rfl) rfl (E6 (op:=4) (s:=[45]) hb hQ (Aa g0 g1) rp rl (by intro q hq;have:(wb).heap.size≤q:=hq;omega) h1 g7 hsz)
 have hn1':Ae (Ab l i) [45]=false:=by simpa using hn1
 have H:=O (Z hE (Z hP ho));have HN:=O hn1';generalize hR:Bm l E prim (m+1) i=R at*;have hR':(prim i).bind (fun x j=>B8 l E m x j)=R:=by rw[←hR];simp[Bm,hn1']
 have HR:=O hR';clear hR hR' hn1 hn1' hE hP ih ho;go_enter func244,ntmps244;go_wp2_with fail;refine(Bu hp _ HN.out).mono ?_;rintro e wb ⟨rfl,gb⟩;have h0:=hp.gbN gb;have g0:w.grownBy wb (some b):=Ag gz gb;have hB:=Blk.gb hz gb (by simp);have hw0:w.heap.size<wb.heap.size:=by have:=gb.size;simp at*;omega
 clear hz hp gb gz;go_wp2_with fail;refine(H.out.2.1 _ _ h0 (fun e=>H.out.2.2 (by rw[←HR.out,e];rfl))).mono ?_;rintro e w1 ⟨g1,h1⟩;cases ho:prim i with
 |out=>rw[ho]at h1;exact h1.elim
 | bad q=>
   rw[ho]at h1;subst h1;exact⟨rfl,Post.bad (Aa g0 g1) (by rw[←HR.out,ho];rfl)⟩
 | ok x j=>
   rw[ho]at h1;obtain⟨v,rfl,⟨pa,pc,la,lc,rfl,rp,rl⟩,h1⟩:=h1;have hs1:=g1.size;have hb1:=h1.lt;have HQ:=O (show B8 l E m x j=R by rw[←HR.out,ho];rfl);have hK:Kept b tv wv l wl w w1.heap.size (w1.alloc (.cells (hdC x.h (.slice pa x.h.p.length pc) (.slice la x.kids.len lc)).toArray 27 (0,0))) x pa pc la lc j:=by
    have g:=World.grownBy_alloc w1 (.cells (hdC x.h (.slice pa x.h.p.length pc) (.slice la x.kids.len lc)).toArray 27 (0,0)) none;refine⟨h1.alloc _,Blk.new w1 _ _,(rp.mono ?_).gb g (by simp),(rl.mono ?_).gb g (by simp),Ad (Aa g0 g1) _,hb1,by omega,((hB.gb g1 (by simp;omega))).alloc _⟩;all_goals
     intro q hq hq2;have:wb.heap.size≤q:=hq;exact⟨by omega,by omega⟩
   have HK:=O hK;clear hK rp rl ho HR h1 hB g1 g0 h0;go_wp2_with fail;go_loopg [] m (fun n wr=>IdxR l wl E b tv wv w w1.heap.size R n wr)
   case atStart=>exact⟨x,pa,pc,la,lc,j,HK.out,HQ.out⟩
   case round=>
    obtain⟨y,ya,yc,ma,mc,q,hk,hloop⟩:=hrel;clear HQ HK;have hp:=hk.par;cases gk with
    |zero=>exact absurd hloop.symm H.out.2.2
    |succ n=>
    cases hs:Ae (Ab l q) [91]with
    | false=>
      have HQ:=O (show R= .ok y q by rw[←hloop];simp[B8,hs]);have HS:=O hs;have HK:=O hk;clear hloop hs hk;go_wp2_with fail;refine(Bu hp _ HS.out).mono ?_;rintro e w2 ⟨rfl,g2⟩;have hk:=HK.out.gbN hb g2;have hL:=hk.blk;have hZ:=hk.zero;have hwL:=hk.wL;have HK2:=O hk;clear HK hk hp g2;obtain⟨cl_0,cl_1,cl_2,cl_3,cl_4,cl_5,cl_6,cl_f⟩:=(hL).c7;obtain⟨cz_0,cz_1,cz_2,cz_3,cz_4,cz_5,cz_6,cz_f⟩:=(hZ).c7;go_wp2;have hk:=HK2.out;have g7:=Ah w2 w.heap.size (.int .i64 y.h.op) (str y.h.s) (.int .i64 y.h.vk) (.int .i64 y.h.vn) (str y.h.vs) (.slice ya y.h.p.length yc) (.slice ma y.kids.len mc);exact bodyPost_ret (Al rfl _ (hZ.set7 _ _ _ _ _ _ _) rfl) rfl (Bj hb HQ.out hk.gr ⟨_,_,_,_,rfl,hk.rp,hk.rl⟩ (by intro k hk;exact hk.1) hk.par g7)
    | true=>
      have HQ:=O (show(E (q+1)).bind (fun z j=>(Be l [93] j).bind fun _ k=>B8 l E n (C5 y z) k)=R by rw[←hloop];simp[B8,hs]);have HS:=O hs;have HK:=O hk;clear hloop hs hk;go_wp2_with fail;refine(B1 hp _ HS.out).mono ?_;rintro e w2 ⟨rfl,h2,g2⟩;have hk:=HK.out.gb hb g2 h2;have hL:=hk.blk;have hwL:=hk.wL;have hbL:=hk.bL;have HK2:=O hk;clear HK hk hp g2;obtain⟨cl_0,cl_1,cl_2,cl_3,cl_4,cl_5,cl_6,cl_f⟩:=(hL).c7;have hLb:=hL.lt;cases ho2:E (q+1)with
      |out=>exact absurd (show R= .out by rw[←HQ.out,ho2];rfl) H.out.2.2
      | bad z=>
        go_wp2_with fail;go_region_with(go_at_call 67;refine(H.out.1 _ _ (h2.gbN (Am (Ac _ _))) (by rw[ho2];simp)).mono ?_;rintro e w4 ⟨g4,h4⟩;rw[ho2]at h4;subst h4;refine F8 (P:=Tryz.prog) ⟨rfl,Post.bad (Aa (Am HK2.out.gr) g4) (by rw[←HQ.out,ho2];rfl)⟩ ⟨#[],[]⟩ w4 ?_);all_goals trivial
      | ok z p=>
        go_wp2_with fail;go_region_with(go_at_call 67;refine(H.out.1 _ _ (h2.gbN (Am (Ac _ _))) (by rw[ho2];simp)).mono ?_;rintro e w4 ⟨g4,h4⟩;rw[ho2]at h4;obtain⟨v,rfl,⟨za,zc,na,nc,rfl,zp,zl⟩,h4⟩:=h4;have hk4:=HK2.out.gb hb (Aa (Am (Ac _ _)) g4) h4;have hL4:=hk4.blk;have hlt4:=hL4.lt;have HZ:=O (Z hk4 (Z zp zl));clear hk4 zp zl;obtain⟨dl_0,dl_1,dl_2,dl_3,dl_4,dl_5,dl_6,dl_f⟩:=(hL4).c7);all_goals
         have hin:∀g,w2.heap.size≤g→but w w1.heap.size g:=fun g hg=>⟨by omega,by omega⟩;have hK5:=HZ.out.1.two hb 6 [] (z:=z) (HZ.out.2.1.mono fun g hg _=>hin g hg) (HZ.out.2.2.mono fun g hg _=>hin g hg);have HQ2:=O (show(Be l [93] p).bind (fun _ k=>B8 l E n (C5 y z) k)=R by rw[←HQ.out,ho2];rfl);clear HZ HK2 cl_0 cl_1 cl_2 cl_3 cl_4 cl_5 cl_6 cl_f dl_0 dl_1 dl_2 dl_3 dl_4 dl_5 dl_6 dl_f hL hL4 HQ ho2 h4 h2;go_wp2_with fail;refine(CA hK5.par [93]).mono ?_;rintro e w6 ⟨g6,h6⟩;cases hw:Be l [93] p with
         |out=>rw[hw]at h6;exact h6.elim
         | bad f=>
           rw[hw]at h6;subst h6;exact⟨rfl,Post.bad (Aa hK5.gr g6) (by rw[←HQ2.out,hw];rfl)⟩
         | ok _ f=>
           rw[hw]at h6;obtain⟨v,rfl,rfl,h6⟩:=h6;have HQ3:=O (show B8 l E n (C5 y z) f=R by rw[←HQ2.out,hw];rfl);clear HQ2 hw;go_wp2_with fail;go_roundg n
           case measure=>omega
           case rel=>exact⟨C5 y z,none,0,_,2,f,hK5.gb hb g6 h6,HQ3.out⟩
end
end Go.Proofs.YtgjdhajcnechdaaGreatDoor
