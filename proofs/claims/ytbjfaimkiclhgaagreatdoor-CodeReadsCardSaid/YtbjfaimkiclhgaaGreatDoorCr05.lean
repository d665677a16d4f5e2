/-
  SynF SynG SynH SynI SynJ SynK SynL Expr Run Words
-/
import Derived.Test.YtbjfaimkiclhgaaGreatDoorCr03
import Derived.Test.YtbjfaimkiclhgaaGreatDoorCr02
import Derived.Lib.SmallJoins
import Derived.Defers
import Derived.Recover
import Derived.Lib.ItoaMem
set_option linter.all false
set_option maxRecDepth 100000
set_option maxHeartbeats 8000000
namespace Go.Proofs.YtbjfaimkiclhgaaGreatDoor
open Go.Proofs.Tryz
open Go.RowKit
section
variable {b:Nat}{tv wv:Value}{l:List Tok}{wl:List Bs}
def LT{w:World}{i:Nat}(h:Par w b tv wv l wl i)(hl:A0 l):
 Calls Tryz.prog 366 #[.pointer (some ⟨b,0,none⟩)] w (Post b tv wv l wl w (λ_ v x=>v=str x) (AD l i)):=by
 have hb:=h.lt;have c3:=h.c3;have HL:=S hl;clear hl;go_enter func366,ntmps366;go_wp2_with fail;go_region_with(first| (go_at_call 240;refine(Bj (h.gbN (Ad (Aa _ _)))).mono ?_;rintro e w1 ⟨rfl,g1⟩;have h1:=h.gbN (Z (Ad (Aa _ _)) g1);have d3:=h1.c3)| (go_at_call 128;refine(slices_Contains_string_empty _ _ _ _).mono ?_;rintro e w2 ⟨rfl,rfl⟩));all_goals
  have gA:=Z (Ad (Aa w none)) g1;go_wp2_with fail;refine(B7 h1 HL.1).mono ?_;rintro e w2 ⟨g2,h2⟩;cases hr:AD l i with
  |out=>rw[hr]at h2;exact h2.elim
  | bad q=>
    rw[hr]at h2;subst h2;exact⟨rfl,Post.bad (Z (Ao gA) g2) hr⟩
  | ok x j=>
    rw[hr]at h2;obtain⟨v,rfl,rfl,h2⟩:=h2;have HR:=S hr;clear hr;go_wp2;go_ret;exact Post.ok (Z (Ao gA) g2) HR.1 rfl h2
def G1{w:World}{base e size n m:Nat}{cs:List Value}(hm:m=w.heap.size)(hb:base<=w.heap.size)(h:cs.length=n*size)(hn:n<=maxLen):(w.alloc (.cells cs.toArray e (0,0))).ownsRow base e size (.slice (some ⟨m,0,none⟩) n n) n cs:=by
 subst hm;exact⟨h,.inr ⟨_,_,cs.toArray,rfl,hb,heap_alloc_new w _,nR _,hn,by simpa using h,by simp[<-h]⟩⟩
def VS(B:Nat)(w:World)(v:Value)(p:List Bs):Prop:=∃pa pc,v= .slice pa p.length pc/\Cells w v 1 p.length (p.map str) (An B)
def VS.of_owns{w:World}{B:Nat}{v:Value}{p:List Bs}(h:w.ownsRow B 9 1 v p.length (p.map str)):VS B w v p:=by
 have hc:=C0 h;obtain⟨a,cap,e,_⟩:=id hc;exact⟨a,cap,e,hc⟩
def ZT(l:List Tok)(wl:List Bs)(b:Nat)(tv wv:Value)(w:World)(r:Res (List Bs))(m:Nat)(v:Value)(wr:World):Prop:=
 ∃acc j,wr.ownsRow w.heap.size 9 1 v acc.length (acc.map str)/\Par wr b tv wv l wl j/\Dk l m acc j=r/\w.grownBy wr (some b)/\acc.length<=j/\acc≠[]
def Nz{w:World}{i:Nat}(h:Par w b tv wv l wl i)(hl:A0 l)(n:Nat)(ho:CG l n i ≠ .out):
 Calls Tryz.prog 278 #[.pointer (some ⟨b,0,none⟩)] w (Post b tv wv l wl w (VS w.heap.size) (CG l n i)):=by
 have hb:=h.lt;have hf:=h.few;generalize hR:CG l n i=R at*;have H:=S (X hl (X ho hR));clear hl ho hR;go_enter func278,ntmps278;go_wp2_with fail;refine(B7 h H.1.1).mono ?_;rintro e w1 ⟨g1,h1⟩;cases hr:AD l i with
 |out=>rw[hr]at h1;exact h1.elim
 | bad q=>
   rw[hr]at h1;subst h1;exact⟨rfl,Post.bad g1 (by rw[<-H.1.2.2,CG,hr];rfl)⟩
 | ok x j=>
   rw[hr]at h1;obtain⟨v,rfl,rfl,h1⟩:=h1;have HR:=S (show Dk l n [x] j=R by rw[<-H.1.2.2,CG,hr];rfl);have hj:1<=j:=by
    unfold AD at hr;split at hr
    ·cases hr;omega
    ·cases hr
   have hs1:=g1.size;have ho1:(w1.alloc (.cells [str x].toArray 9 (0,0))).ownsRow w.heap.size 9 1 (.slice (some ⟨w1.heap.size,0,none⟩) 1 1) 1 [str x]:=G1 rfl hs1 rfl (by decide);have h1':=h1.alloc (.cells [str x].toArray 9 (0,0));have g1':=Ac g1 (.cells [str x].toArray 9 (0,0));clear hr;go_wp2_with fail;go_loopg [3] n (λm v wr=>ZT l wl b tv wv w R m v wr)
   case atStart=>exact⟨[x],j,ho1,h1',HR.1,g1',hj,by simp⟩
   case round=>
    obtain⟨acc,q,hown,hp,hloop,gr,hlen,hne⟩:=hrel;clear ho1 h1' g1' h1 g1;have hj2:=hp.le;cases gk with
    |zero=>exact absurd hloop.symm H.1.2.1
    |succ m=>
    cases hs:Ah (Ab l q) [44]with
    | false=>
      have HQ:=S (show R= .ok acc q by rw[<-hloop];simp[Dk,hs]);have HO:=S hown;have HS:=S hs;clear hloop hs hown;go_wp2_with fail;refine mR (Bb hp _ HS.1) λw2 g2=>?_;have h2:=hp.gbN g2;go_wp2;go_ret;exact Post.ok (Ag gr g2) HQ.1 (VS.of_owns (Cs HO.1 g2 (by simp))) h2
    | true=>
      have HQ:=S (show(AD l (q+1)).bind (λy j=>Dk l m (acc++[y]) j)=R by rw[<-hloop];simp[Dk,hs]);have HO:=S hown;have HS:=S hs;clear hloop hs hown;go_wp2_with fail;refine(Bm hp _ HS.1).mono ?_;rintro e w2 ⟨rfl,h2,g2⟩;go_wp2_with fail;refine(B7 h2 H.1.1).mono ?_;rintro e w3 ⟨g3,h3⟩;cases hr2:AD l (q+1)with
      |out=>rw[hr2]at h3;exact h3.elim
      | bad z=>
        rw[hr2]at h3;subst h3;exact⟨rfl,Post.bad (Z (Z gr g2) g3) (HQb HQ hr2)⟩
      | ok y z=>
        rw[hr2]at h3;obtain⟨v',rfl,rfl,h3⟩:=h3;have hz:q+2<=z:=by
         unfold AD at hr2;split at hr2
         ·cases hr2;omega
         ·cases hr2
        have HQ2:=S (show Dk l m (acc++[y]) z=R by rw[<-HQ.1,hr2];rfl);have g23:=Z g2 g3;have hown3:=Cs HO.1 g23 (by intro k hk _ e;cases e;omega);have hown4:=hown3.alloc (.cells [str y].toArray 9 (0,0));have hlen2:=h3.le;have gA:=Ac (Z gr g23) (.cells [str y].toArray 9 (0,0));have hA:=h3.alloc (.cells [str y].toArray 9 (0,0));have hbs:=gA.size;obtain⟨i0,hi,hz0,hz1,hz2⟩:=info_parts Fp;have hnc:=AP w3 [str y] 9;have hml:acc.length+1<=maxLen:=by unfold maxLen;omega
        clear hr2 hown3;have HX:=S (X hi (X hz0 (X hz1 (X hz2 (X hnc (X hml hown4))))));clear hi hz0 hz1 hz2 hnc hml hown4;go_wp2_with (at_builtin;obtain⟨hi,hz0,hz1,hz2,hnc,hml,hown4⟩:=HX.1;refine GV rfl _ _ 37 rfl w.heap.size 9 i0 (str []) 1 16 underlying37 hi hz0 hz1 hz2 rfl (by decide) _ _ _ rfl hown4 ⟨w3.heap.size,0,none⟩ 1 1 [str y] rfl rfl hnc (by simp[Value.oneCell']) hml (by omega) hbs ?_;intro v' w5 hown5 g5 _;clear hi hz0 hz1 hz2 hnc hml hown4);have HO5:=S hown5;clear hown5;go_roundg m
        case measure=>omega
        case rel=>
         have hob:∀k,u3.ownBlock=some k->b<k:=λk hk=>by have:=(HO.1.lt k hk).1;omega
         have hob2:∀k,u3.ownBlock=some k->w.heap.size<=k:=λk hk=>(HO.1.lt k hk).1;refine⟨acc++[y],z,by simpa using HO5.1,hA.gb g5 hob,HQ2.1,?_,by simp;omega,by simp⟩;have g5':World.grownBy (w3.alloc _) w5 u3.ownBlock:=g5;cases hv:u3.ownBlock with
         |none=>rw[hv]at g5';exact Ag gA g5'
         |some k=>rw[hv]at g5';exact Aq gA g5' (.inr (hob2 k hv))
end
section
variable {b:Nat}{tv wv:Value}{l:List Tok}{wl:List Bs}
def VL(B:Nat)(w:World)(v:Value)(f:Fo):Prop:=∃la lc,v= .slice la f.len lc/\RepL (An B) w v f
def VL.of_owns{w:World}{B:Nat}{v:Value}{f:Fo}(h:OwnF w B v f):VL B w v f:=by
 obtain⟨cs,h1,h2⟩:=id h;obtain⟨a,cap,e,_⟩:=C0 h1;exact⟨a,cap,e,h.rep⟩
def ListR(l:List Tok)(wl:List Bs)(E:Nat->Res Ex)(b:Nat)(tv wv:Value)(w:World)(r:Res Fo)(m:Nat)(v:Value)(wr:World):Prop:=
 ∃acc j,OwnF wr w.heap.size v acc/\Par wr b tv wv l wl j/\Di l E m acc j=r/\w.grownBy wr (some b)/\acc.len<=j
def FO(E:Nat->Res Ex):Prop:=∀i x j,E i= .ok x j->i<j
def Jc{E:Nat->Res Ex}(hE:CE 208 b tv wv l wl E)(hgo:FO E){w:World}{i:Nat}(h:Par w b tv wv l wl i)(n:Nat)(ho:Dd l E n i ≠ .out):
 Calls Tryz.prog 302 #[.pointer (some ⟨b,0,none⟩)] w (Post b tv wv l wl w (VL w.heap.size) (Dd l E n i)):=by
 have hb:=h.lt;have hf:=h.few;generalize hR:Dd l E n i=R at*;have H:=S (X hE (X ho (X hR hgo)));clear hE ho hR hgo;go_enter func302,ntmps302;go_wp2_with fail;refine(H.1.1 _ _ h (λe=>H.1.2.1 (by rw[<-H.1.2.2.1,Dd,e];rfl))).mono ?_;rintro e w1 ⟨g1,h1⟩;cases hr:E i with
 |out=>rw[hr]at h1;exact h1.elim
 | bad q=>
   rw[hr]at h1;subst h1;exact⟨rfl,Post.bad g1 (by rw[<-H.1.2.2.1,Dd,hr];rfl)⟩
 | ok x j=>
   rw[hr]at h1;obtain⟨v,rfl,⟨pa,pc,la,lc,rfl,rp,rl⟩,h1⟩:=h1;have HR:=S (show Di l E n (.one x) j=R by rw[<-H.1.2.2.1,Dd,hr];rfl);have hj:1<=j:=by have:=H.1.2.2.2 _ _ _ hr;omega
   have hs1:=g1.size;have hlt:=h1.lt;have ho1:OwnF (w1.alloc (.cells (hdC x.h (.slice pa x.h.p.length pc) (.slice la x.kids.len lc)).toArray 163 (0,0))) w.heap.size (.slice (some ⟨w1.heap.size,0,none⟩) 1 1) (.one x):=by
    have g:=gZ w1 (.cells (hdC x.h (.slice pa x.h.p.length pc) (.slice la x.kids.len lc)).toArray 163 (0,0)) none;refine⟨_,G1 rfl hs1 rfl (by decide),RepF.gb g (by simp) (RepF.mono (ok:=An w.heap.size) ?_ (VE.rep rp rl))⟩;intro k hk hk2;exact⟨hk,by simp[Value.ownBlock];omega⟩
   have HO:=S ho1;have h1':=h1.alloc (.cells (hdC x.h (.slice pa x.h.p.length pc) (.slice la x.kids.len lc)).toArray 163 (0,0));have g1':=Ac g1 (.cells (hdC x.h (.slice pa x.h.p.length pc) (.slice la x.kids.len lc)).toArray 163 (0,0));clear hr ho1 rp rl;go_wp2_with fail;go_loopg [3] n (λm v wr=>ListR l wl E b tv wv w R m v wr)
   case atStart=>exact⟨.one x,j,HO.1,h1',HR.1,g1',hj⟩
   case round=>
    obtain⟨acc,q,hown,hp,hloop,gr,hlen⟩:=hrel;clear HO h1' g1' h1 g1;have hj2:=hp.le;cases gk with
    |zero=>exact absurd hloop.symm H.1.2.1
    |succ m=>
    cases hs:Ah (Ab l q) [44]with
    | false=>
      have HQ:=S (show R= .ok acc q by rw[<-hloop];simp[Di,hs]);have HO:=S hown;have HS:=S hs;clear hloop hs hown;go_wp2_with fail;refine mR (Bb hp _ HS.1) λw2 g2=>?_;have h2:=hp.gbN g2;go_wp2;go_ret;exact Post.ok (Ag gr g2) HQ.1 (VL.of_owns (HO.1.gb g2 (by simp))) h2
    | true=>
      have HQ:=S (show(E (q+1)).bind (λy j=>Di l E m (acc.snoc y) j)=R by rw[<-hloop];simp[Di,hs]);have HO:=S hown;have HS:=S hs;clear hloop hs hown;go_wp2_with fail;refine(Bm hp _ HS.1).mono ?_;rintro e w2 ⟨rfl,h2,g2⟩;go_wp2_with fail;refine(H.1.1 _ _ h2 (λe=>H.1.2.1 (by rw[<-HQ.1,e];rfl))).mono ?_;rintro e w3 ⟨g3,h3⟩;cases hr2:E (q+1)with
      |out=>rw[hr2]at h3;exact h3.elim
      | bad z=>
        rw[hr2]at h3;subst h3;exact⟨rfl,Post.bad (Z (Z gr g2) g3) (HQb HQ hr2)⟩
      | ok y z=>
        rw[hr2]at h3;obtain⟨v',rfl,⟨ya,yc,ma,mc,rfl,ry,rm⟩,h3⟩:=h3;have hz:q+1<z:=H.1.2.2.2 _ _ _ hr2;have HQ2:=S (show Di l E m (acc.snoc y) z=R by rw[<-HQ.1,hr2];rfl);have g23:=Z g2 g3;obtain⟨cs,hown3,hrep3⟩:=HO.1.gb g23 (by intro k hk _ e;cases e;omega);have hown4:=hown3.alloc (.cells (hdC y.h (.slice ya y.h.p.length yc) (.slice ma y.kids.len mc)).toArray 163 (0,0));have hlen2:=h3.le;have gB:=gZ w3 (.cells (hdC y.h (.slice ya y.h.p.length yc) (.slice ma y.kids.len mc)).toArray 163 (0,0)) none;have gA:=Ac (Z gr g23) (.cells (hdC y.h (.slice ya y.h.p.length yc) (.slice ma y.kids.len mc)).toArray 163 (0,0));have hA:=h3.alloc (.cells (hdC y.h (.slice ya y.h.p.length yc) (.slice ma y.kids.len mc)).toArray 163 (0,0));have hbs:=gA.size;have hs23:=g2.size;have hsr:=gr.size;have hol:∀k,u3.ownBlock=some k->w.heap.size<=k/\k<wr.heap.size:=λk hk=>by
         obtain⟨cs0,ho0,_⟩:=HO.1;exact ho0.lt k hk
        obtain⟨i0,hi,hz0,hz1,hz2⟩:=info_parts CJ;have hnc:=AP w3 (hdC y.h (.slice ya y.h.p.length yc) (.slice ma y.kids.len mc)) 163;have hml:acc.len+1<=maxLen:=by unfold maxLen;omega
        have HY:=S (X (hrep3.gb gB (by simp)) (X (ry.gb gB (by simp)) (rm.gb gB (by simp))));have HX:=S (X hi (X hz0 (X hz1 (X hz2 (X hnc (X hml (X hown4 hol)))))));clear hr2 hown3 hrep3 ry rm hi hz0 hz1 hz2 hnc hml hown4 hol;go_wp2_with (at_builtin;obtain⟨hi,hz0,hz1,hz2,hnc,hml,hown4,hol⟩:=HX.1;refine GV rfl _ _ 129 rfl w.heap.size 163 i0 _ 7 104 underlying129 hi hz0 hz1 hz2 rfl (by decide) _ _ _ rfl hown4 ⟨w3.heap.size,0,none⟩ 1 1 (hdC y.h (.slice ya y.h.p.length yc) (.slice ma y.kids.len mc)) rfl rfl hnc (by simp[hdC,Value.oneCell']) hml (by omega) hbs ?_;intro v' w5 hown5 g5 hn5;clear hi hz0 hz1 hz2 hnc hml hown4 hol);have HO5:=S (X hown5 hn5);clear hown5 hn5;go_roundg m
        case measure=>omega
        case rel=>
         have hol:=HX.1.2.2.2.2.2.2.2;have g5':World.grownBy (w3.alloc _) w5 u3.ownBlock:=g5;refine⟨acc.snoc y,z,?_,hA.gb g5' (λk hk=>by have:=(hol k hk).1;omega),HQ2.1,?_,by rw[Fo.len_snoc];omega⟩
         ·exact OwnF.snoc (v:=u3) (okx:=An w2.heap.size) HY.1.1 rfl HY.1.2.1 HY.1.2.2 (by intro k hk;have hk:w2.heap.size<=k:=hk;exact⟨by omega,λe=>by have:=(hol k e).2;omega⟩) HO5.1.1 g5' HO5.1.2
         ·cases hv:u3.ownBlock with
          |none=>rw[hv]at g5';exact Ag gA g5'
          |some k=>rw[hv]at g5';exact Aq gA g5' (.inr (hol k hv).1)
end
section
variable {b:Nat}{tv wv:Value}{l:List Tok}{wl:List Bs}
abbrev but(w:World)(L:Nat):Nat->Prop:=λg=>w.heap.size<g/\g≠L
structure Kept(b:Nat)(tv wv:Value)(l:List Tok)(wl:List Bs)(w:World)(L:Nat)(wr:World)(x:Ex)(pa:Option Addr)(pc:Nat)(la:Option Addr)(lc:Nat)(j:Nat):Prop where
 par:Par wr b tv wv l wl j
 blk:Blk wr L (hdC x.h (.slice pa x.h.p.length pc) (.slice la x.kids.len lc)) 163
 rp:Cells wr (.slice pa x.h.p.length pc) 1 x.h.p.length (x.h.p.map str) (but w L)
 rl:RepL (but w L) wr (.slice la x.kids.len lc) x.kids
 gr:w.grownBy wr (some b)
 bL:b<L
 wL:w.heap.size<L
 zero:Blk wr w.heap.size zeroE 163
variable {w wr w1:World}{L j k:Nat}{x y z:Ex}{pa la ya ma:Option Addr}{pc lc yc mc:Nat}
def Kept.gb(h:Kept b tv wv l wl w L wr x pa pc la lc j)(hb:b<w.heap.size)(g:wr.grownBy w1 (some b))(hp:Par w1 b tv wv l wl k):Kept b tv wv l wl w L w1 x pa pc la lc k:=
 ⟨hp,h.blk.gb g (by have:=h.bL;simp;omega),h.rp.gb g (by intro q hq _ e;cases e;have:=hq.1;omega),h.rl.gb g (by intro q hq _ e;cases e;have:=hq.1;omega),Z h.gr g,h.bL,h.wL,h.zero.gb g (by simp;omega)⟩
def Kept.gbN(h:Kept b tv wv l wl w L wr x pa pc la lc j)(hb:b<w.heap.size)(g:wr.grownBy w1 none):Kept b tv wv l wl w L w1 x pa pc la lc j:=
 h.gb hb (Ao g) (h.par.gbN g)
def Kept.two(h:Kept b tv wv l wl w L wr x pa pc la lc j)(hb:b<w.heap.size)(op:Int)(s:Bs)(zp:Cells wr (.slice ya z.h.p.length yc) 1 z.h.p.length (z.h.p.map str) (but w L))(zl:RepL (but w L) wr (.slice ma z.kids.len mc) z.kids):
 Kept b tv wv l wl w L ((set7 wr L (.int .i64 op) (str s) (.int .i64 0) (.int .i64 0) (str []) (.slice none 0 0) (.slice (some ⟨wr.heap.size,0,none⟩) 2 2)).alloc (.cells (hdC x.h (.slice pa x.h.p.length pc) (.slice la x.kids.len lc)++hdC z.h (.slice ya z.h.p.length yc) (.slice ma z.kids.len mc)).toArray 163 (0,0)))
  ⟨hd0 op s,.two x z⟩ none 0 (some ⟨wr.heap.size,0,none⟩) 2 j:=by
 have g7:=A2 wr L (.int .i64 op) (str s) (.int .i64 0) (.int .i64 0) (str []) (.slice none 0 0) (.slice (some ⟨wr.heap.size,0,none⟩) 2 2);have hsz:(set7 wr L (.int .i64 op) (str s) (.int .i64 0) (.int .i64 0) (str []) (.slice none 0 0) (.slice (some ⟨wr.heap.size,0,none⟩) 2 2)).heap.size=wr.heap.size:=by simp[set7]
 have hbL:=h.bL;have hwL:=h.wL;have hlt:=h.blk.lt;have hk:∀q,but w L q->q<wr.heap.size->some q≠some L:=λq hq _ e=>by cases e;exact hq.2 rfl
 refine⟨(h.par.gb g7 (by intro q e;cases e;exact hbL)).alloc _,((h.blk.set7 _ _ _ _ _ _ _).of_eq rfl rfl).alloc _,Cells.nil _ 1 _,?_,Ac (Aq h.gr g7 (.inr (by omega))) _,hbL,hwL,?_⟩
 ·exact RepL.two hsz.symm ⟨by omega,by omega⟩ (h.rp.gb g7 hk) (h.rl.gb g7 hk) (zp.gb g7 hk) (zl.gb g7 hk)
 ·exact(h.zero.gb g7 (by simp;omega)).alloc _
def IdxR(l:List Tok)(wl:List Bs)(E:Nat->Res Ex)(b:Nat)(tv wv:Value)(w:World)(L:Nat)(r:Res Ex)(m:Nat)(wr:World):Prop:=
 ∃x pa pc la lc j,Kept b tv wv l wl w L wr x pa pc la lc j/\CI l E m x j=r
def Wr{E prim:Nat->Res Ex}(hE:CE 208 b tv wv l wl E)(hP:CE 343 b tv wv l wl prim):∀m,CE 320 b tv wv l wl (CH l E prim m):=by
 intro m;induction m with
 |zero=>intro w i h ho;exact absurd rfl ho
 |succ m ih=>
 intro w i h ho;have hb:=h.lt;have gz:w.grownBy (w.alloc (.cells zeroE.toArray 163 (0,0))) (some b):=Ac (Aa _ _) _;have hz:=Blk.new w zeroE 163;have hp:=h.alloc (.cells zeroE.toArray 163 (0,0));by_cases hn1:Ah (Ab l i) [45]=true
 ·have H:=S (X ih ho);have HN:=S (X True.intro hn1);generalize hR:CH l E prim (m+1) i=R at*;have hR':(CH l E prim m (i+1)).bind (λx j=> .ok (unE [45] x) j)=R:=by rw[<-hR];simp[CH,hn1]
  have HR:=S hR';clear hR hR' hn1 hE hP ih ho;go_enter func320,ntmps320;go_wp2_with fail;refine(Bm hp _ HN.1.2).mono ?_;rintro e wb ⟨rfl,h0,gb⟩;have g0:w.grownBy wb (some b):=Z gz gb;have hB:=Blk.gb hz gb (by simp;omega);have hw0:w.heap.size<wb.heap.size:=by have:=gb.size;simp at*;omega
  clear hz hp gb gz;go_wp2_with fail;refine(H.1.1 _ _ h0 (λe=>H.1.2 (by rw[<-HR.1,e];rfl))).mono ?_;rintro e w1 ⟨g1,h1⟩;cases ho:CH l E prim m (i+1)with
  |out=>rw[ho]at h1;exact h1.elim
  | bad q=>
    rw[ho]at h1;subst h1;exact⟨rfl,Post.bad (Z g0 g1) (by rw[<-HR.1,ho];rfl)⟩
  | ok x j=>
    rw[ho]at h1;obtain⟨v,rfl,⟨pa,pc,la,lc,rfl,rp,rl⟩,h1⟩:=h1;have hs1:=g1.size;have hb1:=h1.lt;have hlt1:w.heap.size<w1.heap.size:=by omega
    have hZ:=hB.gb g1 (by simp;omega);have hQ:R= .ok (unE [45] x) j:=by rw[<-HR.1,ho];rfl
    have H2:=S (X rp (X rl hQ));clear rp rl hQ hB h0;have cz_:=hZ.c7;go_wp2;obtain⟨rp,rl,hQ⟩:=H2.1;have g7:=A2 w1 w.heap.size (.int .i64 4) (str [45]) (.int .i64 0) (.int .i64 0) (str []) (.slice none 0 0) (.slice (some ⟨w1.heap.size,0,none⟩) 1 1);have hW:=hZ.set7 (.int .i64 4) (str [45]) (.int .i64 0) (.int .i64 0) (str []) (.slice none 0 0) (.slice (some ⟨w1.heap.size,0,none⟩) 1 1);have hsz:(set7 w1 w.heap.size (.int .i64 4) (str [45]) (.int .i64 0) (.int .i64 0) (str []) (.slice none 0 0) (.slice (some ⟨w1.heap.size,0,none⟩) 1 1)).heap.size=w1.heap.size:=by simp[set7]
    simp only[set7]at hW g7 hsz;generalize(((((((w1.setCell {block:=w.heap.size,off:=0} (.int .i64 4)).setCell {block:=w.heap.size,off:=1} (str [45])).setCell {block:=w.heap.size,off:=2} (.int .i64 0)).setCell {block:=w.heap.size,off:=3} (.int .i64 0)).setCell {block:=w.heap.size,off:=4} (str [])).setCell {block:=w.heap.size,off:=5} (.slice none 0 0)).setCell {block:=w.heap.size,off:=6} (.slice (some ⟨w1.heap.size,0,none⟩) 1 1))=W at*;exact bZ (AK (hd:=hd0 4 [45]) (pv:= .slice none 0 0) (lv:= .slice (some ⟨w1.heap.size,0,none⟩) 1 1) rfl _ (Blk.alloc hW (Obj.cells #[Value.int IntKind.i64 x.h.op,str x.h.s,Value.int IntKind.i64 x.h.vk,Value.int IntKind.i64 x.h.vn,str x.h.vs,Value.slice pa x.h.p.length pc,Value.slice la x.kids.len lc] 163)) rfl) rfl (Ih (op:=4) (s:=[45]) hb hQ (Z g0 g1) rp rl (by intro q hq;have:(wb).heap.size<=q:=hq;omega) h1 g7 hsz)
 have hn1':Ah (Ab l i) [45]=false:=by simpa using hn1
 have H:=S (X hE (X hP ho));have HN:=S hn1';generalize hR:CH l E prim (m+1) i=R at*;have hR':(prim i).bind (λx j=>CI l E m x j)=R:=by rw[<-hR];simp[CH,hn1']
 have HR:=S hR';clear hR hR' hn1 hn1' hE hP ih ho;go_enter func320,ntmps320;go_wp2_with fail;refine mR (Bb hp _ HN.1) λwb gb=>?_;have h0:=hp.gbN gb;have g0:w.grownBy wb (some b):=Ag gz gb;have hB:=Blk.gb hz gb (by simp);have hw0:w.heap.size<wb.heap.size:=by have:=gb.size;simp at*;omega
 clear hz hp gb gz;go_wp2_with fail;refine(H.1.2.1 _ _ h0 (λe=>H.1.2.2 (by rw[<-HR.1,e];rfl))).mono ?_;rintro e w1 ⟨g1,h1⟩;cases ho:prim i with
 |out=>rw[ho]at h1;exact h1.elim
 | bad q=>
   rw[ho]at h1;subst h1;exact⟨rfl,Post.bad (Z g0 g1) (by rw[<-HR.1,ho];rfl)⟩
 | ok x j=>
   rw[ho]at h1;obtain⟨v,rfl,⟨pa,pc,la,lc,rfl,rp,rl⟩,h1⟩:=h1;have hs1:=g1.size;have hb1:=h1.lt;have HQ:=S (show CI l E m x j=R by rw[<-HR.1,ho];rfl);have hK:Kept b tv wv l wl w w1.heap.size (w1.alloc (.cells (hdC x.h (.slice pa x.h.p.length pc) (.slice la x.kids.len lc)).toArray 163 (0,0))) x pa pc la lc j:=by
    have g:=gZ w1 (.cells (hdC x.h (.slice pa x.h.p.length pc) (.slice la x.kids.len lc)).toArray 163 (0,0)) none;refine⟨h1.alloc _,Blk.new w1 _ _,(rp.mono ?_).gb g (by simp),(rl.mono ?_).gb g (by simp),Ac (Z g0 g1) _,hb1,by omega,((hB.gb g1 (by simp;omega))).alloc _⟩;all_goals
     intro q hq hq2;have:wb.heap.size<=q:=hq;exact⟨by omega,by omega⟩
   have HK:=S hK;clear hK rp rl ho HR h1 hB g1 g0 h0;go_wp2_with fail;go_loopg [] m (λn wr=>IdxR l wl E b tv wv w w1.heap.size R n wr)
   case atStart=>exact⟨x,pa,pc,la,lc,j,HK.1,HQ.1⟩
   case round=>
    obtain⟨y,ya,yc,ma,mc,q,hk,hloop⟩:=hrel;clear HQ HK;have hp:=hk.par;cases gk with
    |zero=>exact absurd hloop.symm H.1.2.2
    |succ n=>
    cases hs:Ah (Ab l q) [91]with
    | false=>
      have HQ:=S (show R= .ok y q by rw[<-hloop];simp[CI,hs]);have HS:=S hs;have HK:=S hk;clear hloop hs hk;go_wp2_with fail;refine mR (Bb hp _ HS.1) λw2 g2=>?_;have hk:=HK.1.gbN hb g2;have hL:=hk.blk;have hZ:=hk.zero;have hwL:=hk.wL;have HK2:=S hk;clear HK hk hp g2;obtain⟨cl_0,cl_1,cl_2,cl_3,cl_4,cl_5,cl_6,cl_f⟩:=(hL).c7;have cz_:=hZ.c7;go_wp2;have hk:=HK2.1;have g7:=A2 w2 w.heap.size (.int .i64 y.h.op) (str y.h.s) (.int .i64 y.h.vk) (.int .i64 y.h.vn) (str y.h.vs) (.slice ya y.h.p.length yc) (.slice ma y.kids.len mc);exact bZ (AK rfl _ (hZ.set7 _ _ _ _ _ _ _) rfl) rfl (Br hb HQ.1 hk.gr ⟨_,_,_,_,rfl,hk.rp,hk.rl⟩ (by intro k hk;exact hk.1) hk.par g7)
    | true=>
      have HQ:=S (show(E (q+1)).bind (λz j=>(AW l [93] j).bind λ_ k=>CI l E n (Eg y z) k)=R by rw[<-hloop];simp[CI,hs]);have HS:=S hs;have HK:=S hk;clear hloop hs hk;go_wp2_with fail;refine(Bm hp _ HS.1).mono ?_;rintro e w2 ⟨rfl,h2,g2⟩;have hk:=HK.1.gb hb g2 h2;have hL:=hk.blk;have hwL:=hk.wL;have hbL:=hk.bL;have HK2:=S hk;clear HK hk hp g2;obtain⟨cl_0,cl_1,cl_2,cl_3,cl_4,cl_5,cl_6,cl_f⟩:=(hL).c7;have hLb:=hL.lt;cases ho2:E (q+1)with
      |out=>exact absurd (show R= .out by rw[<-HQ.1,ho2];rfl) H.1.2.2
      | bad z=>
        go_wp2_with fail;go_region_with(go_at_call 208;refine(H.1.1 _ _ (h2.gbN (Ad (Aa _ _))) (by rw[ho2];simp)).mono ?_;rintro e w4 ⟨g4,h4⟩;rw[ho2]at h4;subst h4;refine Bt (P:=Tryz.prog) ⟨rfl,Post.bad (Z (Ad HK2.1.gr) g4) (by rw[<-HQ.1,ho2];rfl)⟩ ⟨#[],[]⟩ w4 ?_);all_goals trivial
      | ok z p=>
        go_wp2_with fail;go_region_with(go_at_call 208;refine(H.1.1 _ _ (h2.gbN (Ad (Aa _ _))) (by rw[ho2];simp)).mono ?_;rintro e w4 ⟨g4,h4⟩;rw[ho2]at h4;obtain⟨v,rfl,⟨za,zc,na,nc,rfl,zp,zl⟩,h4⟩:=h4;have hk4:=HK2.1.gb hb (Z (Ad (Aa _ _)) g4) h4;have hL4:=hk4.blk;have hlt4:=hL4.lt;have HZ:=S (X hk4 (X zp zl));clear hk4 zp zl;obtain⟨dl_0,dl_1,dl_2,dl_3,dl_4,dl_5,dl_6,dl_f⟩:=(hL4).c7);all_goals
         have hin:∀g,w2.heap.size<=g->but w w1.heap.size g:=λg hg=>⟨by omega,by omega⟩;have hK5:=HZ.1.1.two hb 6 [] (z:=z) (HZ.1.2.1.mono λg hg _=>hin g hg) (HZ.1.2.2.mono λg hg _=>hin g hg);have HQ2:=S (show(AW l [93] p).bind (λ_ k=>CI l E n (Eg y z) k)=R by rw[<-HQ.1,ho2];rfl);clear HZ HK2 cl_0 cl_1 cl_2 cl_3 cl_4 cl_5 cl_6 cl_f dl_0 dl_1 dl_2 dl_3 dl_4 dl_5 dl_6 dl_f hL hL4 HQ ho2 h4 h2;go_wp2_with fail;refine(CM hK5.par [93]).mono ?_;rintro e w6 ⟨g6,h6⟩;cases hw:AW l [93] p with
         |out=>rw[hw]at h6;exact h6.elim
         | bad f=>
           rw[hw]at h6;subst h6;exact⟨rfl,Post.bad (Z hK5.gr g6) (by rw[<-HQ2.1,hw];rfl)⟩
         | ok _ f=>
           rw[hw]at h6;obtain⟨v,rfl,rfl,h6⟩:=h6;have HQ3:=S (show CI l E n (Eg y z) f=R by rw[<-HQ2.1,hw];rfl);clear HQ2 hw;go_wp2_with fail;go_roundg n
           case measure=>omega
           case rel=>exact⟨Eg y z,none,0,_,2,f,hK5.gb hb g6 h6,HQ3.1⟩
end
section
variable {b:Nat}{tv wv:Value}{l:List Tok}{wl:List Bs}
def Post.split{w w':World}{α:Type}{V:World->Value->α->Prop}{r:Res α}{e:Ending}(h:Post b tv wv l wl w V r e w'):
 w.grownBy w' (some b)/\((∃q,r= .bad q/\e= .panicked (GP q))\/∃x j v,r= .ok x j/\e= .returned v/\V w' v x/\Par w' b tv wv l wl j):=by
 obtain⟨g,h⟩:=h;cases r with
 |out=>exact h.elim
 |bad q=>exact⟨g,.inl ⟨q,rfl,h⟩⟩
 | ok x j=>
   obtain⟨v,h1,h2,h3⟩:=h;exact⟨g,.inr ⟨x,j,v,rfl,h1,h2,h3⟩⟩
variable {w wr w1:World}{L j k:Nat}{x y z:Ex}{pa la ya ma:Option Addr}{pc lc yc mc:Nat}
def Kept.new(hb:b<w.heap.size)(gr:w.grownBy wr (some b))(hz:Blk wr w.heap.size zeroE 163)(hp:Par wr b tv wv l wl j)
 (rp:Cells wr (.slice pa x.h.p.length pc) 1 x.h.p.length (x.h.p.map str) (λg=>w.heap.size<g)) (rl:RepL (λg=>w.heap.size<g) wr (.slice la x.kids.len lc) x.kids) {n:Nat} (hn:n=wr.heap.size):
 Kept b tv wv l wl w n (wr.alloc (.cells (hdC x.h (.slice pa x.h.p.length pc) (.slice la x.kids.len lc)).toArray 163 (0,0))) x pa pc la lc j:=by
 subst hn;have g:=gZ wr (.cells (hdC x.h (.slice pa x.h.p.length pc) (.slice la x.kids.len lc)).toArray 163 (0,0)) none;have hz1:=hz.lt;have hp1:=hp.lt;refine⟨hp.alloc _,Blk.new wr _ _,(rp.mono ?_).gb g (by simp),(rl.mono ?_).gb g (by simp),Ac gr _,hp1,hz1,hz.alloc _⟩;all_goals
  intro q hq hq2;exact⟨hq,by omega⟩
def Kept.leaf(hb:b<w.heap.size)(gr:w.grownBy wr (some b))(hz:Blk wr w.heap.size zeroE 163)(hp:Par wr b tv wv l wl j)(op:Int)(s:Bs){n:Nat}(hn:n=wr.heap.size):
 Kept b tv wv l wl w n (wr.alloc (.cells (hdC (hd0 op s) (.slice none 0 0) (.slice none 0 0)).toArray 163 (0,0))) ⟨hd0 op s,.nil⟩ none 0 none 0 j:=
 Kept.new (x:=⟨hd0 op s,.nil⟩) (pa:=none) (pc:=0) (la:=none) (lc:=0) hb gr hz hp (Cells.nil _ _ _) (RepL.nil _ _) hn
def Kept.one(hb:b<w.heap.size)(gr:w.grownBy wr (some b))(hz:Blk wr w.heap.size zeroE 163)(hp:Par wr b tv wv l wl j)(op:Int)(s:Bs)
 (zp:Cells wr (.slice ya z.h.p.length yc) 1 z.h.p.length (z.h.p.map str) (λg=>w.heap.size<g)) (zl:RepL (λg=>w.heap.size<g) wr (.slice ma z.kids.len mc) z.kids):
 Kept b tv wv l wl w (wr.heap.size+1) ((wr.alloc (.cells (hdC z.h (.slice ya z.h.p.length yc) (.slice ma z.kids.len mc)).toArray 163 (0,0))).alloc (.cells (hdC (hd0 op s) (.slice none 0 0) (.slice (some ⟨wr.heap.size,0,none⟩) 1 1)).toArray 163 (0,0)))
  ⟨hd0 op s,.one z⟩ none 0 (some ⟨wr.heap.size,0,none⟩) 1 j:=
 Kept.new (x:=⟨hd0 op s,.one z⟩) (pa:=none) (pc:=0) (lc:=1) hb (Ac gr _) (hz.alloc _) (hp.alloc _) (Cells.nil _ _ _) (RepL.one rfl (by have:=hz.lt;show w.heap.size<_;omega) zp zl) (by simp)
def Kept.kid1(h:Kept b tv wv l wl w L wr x pa pc la lc j)(hb:b<w.heap.size)(zp:Cells wr (.slice ya z.h.p.length yc) 1 z.h.p.length (z.h.p.map str) (but w L))(zl:RepL (but w L) wr (.slice ma z.kids.len mc) z.kids):
 Kept b tv wv l wl w L ((wr.setCell ⟨L,6,none⟩ (.slice (some ⟨wr.heap.size,0,none⟩) 1 1)).alloc (.cells (hdC z.h (.slice ya z.h.p.length yc) (.slice ma z.kids.len mc)).toArray 163 (0,0)))
  ⟨x.h,.one z⟩ pa pc (some ⟨wr.heap.size,0,none⟩) 1 j:=by
 have g7:wr.grownBy (wr.setCell ⟨L,6,none⟩ (.slice (some ⟨wr.heap.size,0,none⟩) 1 1)) (some L):=Af (Aa _ _) _ _ (.inl rfl);have hsz:(wr.setCell ⟨L,6,none⟩ (.slice (some ⟨wr.heap.size,0,none⟩) 1 1)).heap.size=wr.heap.size:=by simp
 have hbL:=h.bL;have hwL:=h.wL;have hlt:=h.blk.lt;have hk:∀q,but w L q->q<wr.heap.size->some q≠some L:=λq hq _ e=>by cases e;exact hq.2 rfl
 exact⟨(h.par.gb g7 (by intro q e;cases e;exact hbL)).alloc _,((h.blk.set 6 _).of_eq rfl rfl).alloc _,(h.rp.gb g7 hk).gb (gZ _ _ none) (by simp),RepL.one hsz.symm ⟨by omega,by omega⟩ (zp.gb g7 hk) (zl.gb g7 hk),Ac (Aq h.gr g7 (.inr (by omega))) _,hbL,hwL,(h.zero.gb g7 (by simp;omega)).alloc _⟩
def Lh{L:Nat}(i:Nat)(v:Value):wr.grownBy (wr.setCell ⟨L,i,none⟩ v) (some L):=Af (Aa _ _) _ _ (.inl rfl)
def Kept.kids(h:Kept b tv wv l wl w L wr x pa pc la lc j)(hb:b<w.heap.size){f:Fo}(rl:RepL (but w L) wr (.slice ma f.len mc) f):
 Kept b tv wv l wl w L (wr.setCell ⟨L,6,none⟩ (.slice ma f.len mc)) ⟨x.h,f⟩ pa pc ma mc j:=by
 have g7:wr.grownBy (wr.setCell ⟨L,6,none⟩ (.slice ma f.len mc)) (some L):=Lh 6 _;have hbL:=h.bL;have hwL:=h.wL;have hlt:=h.blk.lt;have hk:∀q,but w L q->q<wr.heap.size->some q≠some L:=λq hq _ e=>by cases e;exact hq.2 rfl
 exact⟨h.par.gb g7 (by intro q e;cases e;exact hbL),(h.blk.set 6 _).of_eq rfl rfl,h.rp.gb g7 hk,rl.gb g7 hk,Aq h.gr g7 (.inr (by omega)),hbL,hwL,h.zero.gb g7 (by simp;omega)⟩
def Kept.names(h:Kept b tv wv l wl w L wr x pa pc la lc j)(hb:b<w.heap.size){p:List Bs}(rp:Cells wr (.slice ma p.length mc) 1 p.length (p.map str) (but w L)):
 Kept b tv wv l wl w L (wr.setCell ⟨L,5,none⟩ (.slice ma p.length mc)) ⟨{x.h with p:=p},x.kids⟩ ma mc la lc j:=by
 have g7:wr.grownBy (wr.setCell ⟨L,5,none⟩ (.slice ma p.length mc)) (some L):=Lh 5 _;have hbL:=h.bL;have hwL:=h.wL;have hlt:=h.blk.lt;have hk:∀q,but w L q->q<wr.heap.size->some q≠some L:=λq hq _ e=>by cases e;exact hq.2 rfl
 exact⟨h.par.gb g7 (by intro q e;cases e;exact hbL),(h.blk.set 5 _).of_eq rfl rfl,rp.gb g7 hk,h.rl.gb g7 hk,Aq h.gr g7 (.inr (by omega)),hbL,hwL,h.zero.gb g7 (by simp;omega)⟩
def Kept.op(h:Kept b tv wv l wl w L wr x pa pc la lc j)(hb:b<w.heap.size)(op:Int):
 Kept b tv wv l wl w L (wr.setCell ⟨L,0,none⟩ (.int .i64 op)) ⟨{x.h with op:=op},x.kids⟩ pa pc la lc j:=by
 have g7:wr.grownBy (wr.setCell ⟨L,0,none⟩ (.int .i64 op)) (some L):=Lh 0 _;have hbL:=h.bL;have hwL:=h.wL;have hlt:=h.blk.lt;have hk:∀q,but w L q->q<wr.heap.size->some q≠some L:=λq hq _ e=>by cases e;exact hq.2 rfl
 exact⟨h.par.gb g7 (by intro q e;cases e;exact hbL),(h.blk.set 0 _).of_eq rfl rfl,h.rp.gb g7 hk,h.rl.gb g7 hk,Aq h.gr g7 (.inr (by omega)),hbL,hwL,h.zero.gb g7 (by simp;omega)⟩
def NU{E:Nat->Res Ex}(hE:CE 208 b tv wv l wl E)(hgo:FO E)(hl:A0 l)(n:Nat):CE 303 b tv wv l wl (DN l E n):=by
 intro w i hp ho;have hb:=hp.lt;have gr:w.grownBy (w.alloc (.cells zeroE.toArray 163 (0,0))) (some b):=Ac (Aa _ _) _;have hz:=Blk.new w zeroE 163;replace hp:=hp.alloc (.cells zeroE.toArray 163 (0,0));have H:=S (X hE (X hgo (X hl ho)));generalize hR:DN l E n i=R at*;have HQ:=S hR;rw[DN]at HQ;clear hE hgo hl ho hR;go_enter func303,ntmps303;go_wp2_with fail;refine(B7 hp H.1.2.2.1).mono ?_;intro e w1 hq;obtain⟨g,⟨q,hr,rfl⟩| ⟨s,j,v,hr,rfl,rfl,hp⟩⟩:=hq.split
 ·exact PBd gr g HQ hr
 replace gr:=Z gr g;replace HQ:=HQo HQ hr;clear hr;have hk:=Kept.leaf hb gr (hz.gb g (by simp;omega)) hp 3 s rfl;have HK:=S hk;have hs1:=hk.blk.lt;clear hk g hz;go_wp2_with fail;replace gr:=HK.1.gr;refine(CM HK.1.par [40]).mono ?_;intro e w2 hq;obtain⟨g,⟨q,hr,rfl⟩| ⟨_,j2,v,hr,rfl,rfl,hp⟩⟩:=hq.split
 ·exact PBd gr g HQ hr
 replace gr:=Z gr g;replace HQ:=HQo HQ hr;clear hr;have hk:=HK.1.gb hb g hp;cases hs:Ah (Ab l j2) [41]
 case' true=>
  rw[if_pos hs]at HQ;go_wp2_with fail;refine(Bm hp _ hs).mono ?_;rintro e w3 ⟨rfl,hp,g⟩;replace hk:=hk.gb hb g hp
 case' false=>
  rw[if_neg (nF hs)]at HQ;go_wp2_with fail;refine mR (Bb hp _ hs) λw3 g=>?_;replace hk:=hk.gbN hb g;replace hp:=hk.par;replace gr:=hk.gr;have hlt:=hk.blk.lt;have hwL:=hk.wL;go_wp2_with fail;refine(Jc H.1.1 H.1.2.1 hp n (λe=>H.1.2.2.2 (by rw[<-HQ.1,e];rfl))).mono ?_;intro e w4 hq;obtain⟨g,⟨q,hr,rfl⟩| ⟨f,j3,v,hr,rfl,⟨ma,mc,rfl,rl⟩,hp⟩⟩:=hq.split
  ·exact PBd gr g HQ hr
  replace gr:=Z gr g;replace HQ:=HQo HQ hr;clear hr;replace hk:=hk.gb hb g hp;have hk2:=hk.kids hb (rl.mono λg hg _=>(⟨by have:w3.heap.size<=g:=hg;omega,by have:w3.heap.size<=g:=hg;omega⟩:but w w1.heap.size g));have hL:=hk.blk;obtain⟨cl_0,cl_1,cl_2,cl_3,cl_4,cl_5,cl_6,cl_f⟩:=(hL).c7;clear hk rl;go_wp2_with fail;replace gr:=hk2.gr;refine(CM hk2.par [41]).mono ?_;intro e w5 hq;obtain⟨g,⟨q,hr,rfl⟩| ⟨_,j4,v,hr,rfl,rfl,hp⟩⟩:=hq.split
  ·exact PBd gr g HQ hr
  replace gr:=Z gr g;replace HQ:=HQo HQ hr;clear hr;have hk:=hk2.gb hb g hp;clear cl_0 cl_1 cl_2 cl_3 cl_4 cl_5 cl_6 cl_f hk2 hL g
 all_goals
  have hL:=hk.blk;have hZ:=hk.zero;have hwL:=hk.wL;have HK:=S hk;clear hk hp;obtain⟨cl_0,cl_1,cl_2,cl_3,cl_4,cl_5,cl_6,cl_f⟩:=(hL).c7;have cz_:=hZ.c7;go_wp2;have hk:=HK.1;exact bZ (AK rfl _ (hZ.set7 _ _ _ _ _ _ _) rfl) rfl (Br hb HQ.1.symm hk.gr ⟨_,_,_,_,rfl,hk.rp,hk.rl⟩ (by intro k hk;exact hk.1) hk.par (A2 _ _ _ _ _ _ _ _ _))
def Nu{E:Nat->Res Ex}(hE:CE 208 b tv wv l wl E)(hl:A0 l):CE 330 b tv wv l wl (DJ l E):=by
 intro w i hp ho;have hb:=hp.lt;have gr:w.grownBy (w.alloc (.cells zeroE.toArray 163 (0,0))) (some b):=Ac (Aa _ _) _;have hz:=Blk.new w zeroE 163;replace hp:=hp.alloc (.cells zeroE.toArray 163 (0,0));have H:=S (X hE (X hl ho));generalize hR:DJ l E i=R at*;have HQ:=S hR;rw[DJ]at HQ;clear hE hl ho hR;go_enter func330,ntmps330;go_wp2_with fail;refine(CM hp [38]).mono ?_;intro e w1 hq;obtain⟨g,⟨q,hr,rfl⟩| ⟨_,j,v,hr,rfl,rfl,hp⟩⟩:=hq.split
 ·exact PBd gr g HQ hr
 replace gr:=Z gr g;replace HQ:=HQo HQ hr;clear hr;replace hz:=hz.gb g (by simp;omega);cases hs:Ah (Ab l j) [40]with
 | true=>
   rw[if_pos hs]at HQ;go_wp2_with fail;refine(Bm hp _ hs).mono ?_;rintro e w2 ⟨rfl,hp,g⟩;replace hz:=hz.gb g (by simp;omega);replace gr:=Z gr g;have hs2:=hz.lt;clear g;go_wp2_with fail;refine(H.1.1 _ _ hp (λe=>H.1.2.2 (by rw[<-HQ.1,e];rfl))).mono ?_;intro e w3 hq;obtain⟨g,⟨q,hr,rfl⟩| ⟨x,j2,v,hr,rfl,⟨pa,pc,la,lc,rfl,rp,rl⟩,hp⟩⟩:=hq.split
   ·exact PBd gr g HQ hr
   replace gr:=Z gr g;replace HQ:=HQo HQ hr;clear hr;replace hz:=hz.gb g (by simp;omega);have hk:=Kept.one hb gr hz hp 9 [] (rp.mono λg hg _=>by have:w2.heap.size<=g:=hg;show w.heap.size<g;omega) (rl.mono λg hg _=>by have:w2.heap.size<=g:=hg;show w.heap.size<g;omega);clear rp rl hz g;go_wp2_with fail;replace gr:=hk.gr;refine(CM hk.par [41]).mono ?_;intro e w4 hq;obtain⟨g,⟨q,hr,rfl⟩| ⟨_,j3,v,hr,rfl,rfl,hp⟩⟩:=hq.split
   ·exact PBd gr g HQ hr
   replace gr:=Z gr g;replace HQ:=HQo HQ hr;clear hr;replace hk:=hk.gb hb g hp;clear g;have hL:=hk.blk;have hZ:=hk.zero;have hwL:=hk.wL;have HK:=S hk;clear hk hp;have cl_:=hL.c7;have cz_:=hZ.c7;go_wp2;have hk:=HK.1;exact bZ (AK rfl _ (hZ.set7 _ _ _ _ _ _ _) rfl) rfl (Br hb HQ.1.symm hk.gr ⟨_,_,_,_,rfl,hk.rp,hk.rl⟩ (by intro k hk;exact hk.1) hk.par (A2 _ _ _ _ _ _ _ _ _))
 | false=>
   rw[if_neg (nF hs)]at HQ;go_wp2_with fail;refine mR (Bb hp _ hs) λw2 g=>?_;replace hz:=hz.gb g (by simp);replace gr:=Ag gr g;replace hp:=hp.gbN g;clear g;go_wp2_with fail;refine(B7 hp H.1.2.1).mono ?_;intro e w3 hq;obtain⟨g,⟨q,hr,rfl⟩| ⟨s,j2,v,hr,rfl,rfl,hp⟩⟩:=hq.split
   ·exact PBd gr g HQ hr
   replace gr:=Z gr g;replace HQ:=HQo HQ hr;clear hr;replace hz:=hz.gb g (by simp;omega);have hk:=Kept.leaf hb gr hz hp 9 s rfl;clear hz g;have hs3:=hk.blk.lt;cases hs:Ah (Ab l j2) [46]
   case' true=>
    rw[if_pos hs]at HQ;go_wp2_with fail;refine(Bm hk.par _ hs).mono ?_;rintro e w4 ⟨rfl,hp,g⟩;replace hk:=hk.gb hb g hp
   case' false=>
    rw[if_neg (nF hs)]at HQ;go_wp2_with fail;refine mR (Bb hk.par _ hs) λw4 g=>?_;replace hk:=hk.gbN hb g
   all_goals
    have hL:=hk.blk;have hZ:=hk.zero;have hwL:=hk.wL;have HK:=S hk;clear hk hp;have cl_:=hL.c7;have cz_:=hZ.c7;go_wp2;have hk:=HK.1;exact bZ (AK rfl _ (hZ.set7 _ _ _ _ _ _ _) rfl) rfl (Br hb HQ.1.symm hk.gr ⟨_,_,_,_,rfl,hk.rp,hk.rl⟩ (by intro k hk;exact hk.1) hk.par (A2 _ _ _ _ _ _ _ _ _))
end
section
variable {b:Nat}{tv wv:Value}{l:List Tok}{wl:List Bs}
def Res.bind_assoc{α β γ:Type}(r:Res α)(f:α->Nat->Res β)(g:β->Nat->Res γ):(r.bind f).bind g=r.bind λa i=>(f a i).bind g:=by cases r<;>rfl
def Sg{E:Nat->Res Ex}(hE:CE 208 b tv wv l wl E)(hgo:FO E)(hl:A0 l)(n:Nat):CE 368 b tv wv l wl (DU l E n):=by
 intro w i hp ho;have hb:=hp.lt;have gr:w.grownBy (w.alloc (.cells zeroE.toArray 163 (0,0))) (some b):=Ac (Aa _ _) _;have hz:=Blk.new w zeroE 163;replace hp:=hp.alloc (.cells zeroE.toArray 163 (0,0));have H:=S (X hE (X hgo (X hl ho)));generalize hR:DU l E n i=R at*;have HQ:=S hR;rw[DU]at HQ;have hk:=Kept.leaf (n:=w.heap.size+1) hb gr hz hp 7 [] (by simp);clear hE hgo hl ho hR hz gr;go_enter func368,ntmps368;go_wp2_with fail;cases hs:Ah (Ab l i) [124]with
 | true=>
   rw[if_pos hs]at HQ;refine(Bm hk.par _ hs).mono ?_;rintro e w1 ⟨rfl,hp,g⟩;replace hk:=hk.gb hb g hp;have hk8:=hk.op hb 8;have hL:=hk.blk;obtain⟨cl_0,cl_1,cl_2,cl_3,cl_4,cl_5,cl_6,cl_f⟩:=(hL).c7;have hlt:=hL.lt;clear hk g;cases hs:Ah (Ab l (i+1)) [124]
   case' true=>
    rw[if_pos hs,Res.bind_ok]at HQ;go_wp2_with fail;refine(Bm hk8.par _ hs).mono ?_;rintro e w2 ⟨rfl,hp,g⟩;have hk:=hk8.gb hb g hp;clear cl_0 cl_1 cl_2 cl_3 cl_4 cl_5 cl_6 cl_f hL hk8 g hp hlt
   case' false=>
    rw[if_neg (nF hs),Res.bind_assoc]at HQ;go_wp2_with fail;refine mR (Bb hk8.par _ hs) λw2 g=>?_;have hk:=hk8.gbN hb g;clear cl_0 cl_1 cl_2 cl_3 cl_4 cl_5 cl_6 cl_f hL hk8 g hp hlt;have hp:=hk.par;have gr:=hk.gr;have hltW:=hk.blk.lt;have hwL:=hk.wL;go_wp2_with fail;refine(Nz hp H.1.2.2.1 n (λe=>H.1.2.2.2 (by rw[<-HQ.1,e];rfl))).mono ?_;intro e w3 hq;obtain⟨g,⟨q,hr,rfl⟩| ⟨p,j3,v,hr,rfl,⟨ma,mc,rfl,rp⟩,hp⟩⟩:=hq.split
    ·exact PBd gr g HQ hr
    replace gr:=Z gr g;replace HQ:=HQo HQ hr;clear hr;replace hk:=hk.gb hb g hp;have hk2:=hk.names hb (rp.mono λg hg _=>(⟨by have:w2.heap.size<=g:=hg;omega,by have:w2.heap.size<=g:=hg;omega⟩:but w (w.heap.size+1) g));have hL:=hk.blk;obtain⟨cl_0,cl_1,cl_2,cl_3,cl_4,cl_5,cl_6,cl_f⟩:=(hL).c7;have hlt:=hL.lt;clear hk rp g;go_wp2_with fail;replace gr:=hk2.gr;rw[Res.bind_assoc]at HQ;refine(CM hk2.par [124]).mono ?_;intro e w4 hq;obtain⟨g,⟨q,hr,rfl⟩| ⟨_,j4,v,hr,rfl,rfl,hp⟩⟩:=hq.split
    ·exact PBd gr g HQ hr
    replace gr:=Z gr g;replace HQ:=HQo HQ hr;clear hr;rw[Res.bind_ok]at HQ;have hk:=hk2.gb hb g hp;clear cl_0 cl_1 cl_2 cl_3 cl_4 cl_5 cl_6 cl_f hL hk2 g hp gr hltW hwL hlt
   all_goals
    have hp:=hk.par;have gr:=hk.gr;have hltW:=hk.blk.lt;have hwL:=hk.wL;go_wp2_with fail;refine(H.1.1 _ _ hp (λe=>H.1.2.2.2 (by rw[<-HQ.1,e];rfl))).mono ?_;intro e wx hq;obtain⟨g,⟨q,hr,rfl⟩| ⟨x,jx,v,hr,rfl,⟨pa,pc,la,lc,rfl,rp,rl⟩,hp⟩⟩:=hq.split
    ·exact PBd gr g HQ hr
    replace gr:=Z gr g;replace HQ:=HQo HQ hr;clear hr;replace hk:=hk.gb hb g hp;have HK1:=S (hk.kid1 hb (rp.mono λg hg _=>(⟨by have:_<=g:=hg;omega,by have:_<=g:=hg;omega⟩:but w _ g)) (rl.mono λg hg _=>(⟨by have:_<=g:=hg;omega,by have:_<=g:=hg;omega⟩:but w _ g)));have hL:=hk.blk;obtain⟨cl_0,cl_1,cl_2,cl_3,cl_4,cl_5,cl_6,cl_f⟩:=(hL).c7;have hlt:=hL.lt;clear hk rp rl g;go_wp2_with fail;have hk:=HK1.1;replace gr:=hk.gr;refine(CM hk.par [125]).mono ?_;intro e wy hq;obtain⟨g,⟨q,hr,rfl⟩| ⟨_,jy,v,hr,rfl,rfl,hp⟩⟩:=hq.split
    ·exact PBd gr g HQ hr
    replace gr:=Z gr g;replace HQ:=HQo HQ hr;clear hr;replace hk:=hk.gb hb g hp;clear cl_0 cl_1 cl_2 cl_3 cl_4 cl_5 cl_6 cl_f hL g HK1 hlt;have hL:=hk.blk;have hZ:=hk.zero;have hwL:=hk.wL;have HK:=S hk;clear hk hp;obtain⟨cl_0,cl_1,cl_2,cl_3,cl_4,cl_5,cl_6,cl_f⟩:=(hL).c7;have cz_:=hZ.c7;go_wp2;have hk:=HK.1;exact bZ (AK rfl _ (hZ.set7 _ _ _ _ _ _ _) rfl) rfl (Br hb HQ.1.symm hk.gr ⟨_,_,_,_,rfl,hk.rp,hk.rl⟩ (by intro k hk;exact hk.1) hk.par (A2 _ _ _ _ _ _ _ _ _))
 | false=>
   rw[if_neg (nF hs)]at HQ;refine mR (Bb hk.par _ hs) λw3 g=>?_;replace hk:=hk.gbN hb g;replace hp:=hk.par;have gr:=hk.gr;have hlt:=hk.blk.lt;have hwL:=hk.wL;go_wp2_with fail;refine(Jc H.1.1 H.1.2.1 hp n (λe=>H.1.2.2.2 (by rw[<-HQ.1,e];rfl))).mono ?_;intro e w4 hq;obtain⟨g,⟨q,hr,rfl⟩| ⟨f,j3,v,hr,rfl,⟨ma,mc,rfl,rl⟩,hp⟩⟩:=hq.split
   ·exact PBd gr g HQ hr
   replace gr:=Z gr g;replace HQ:=HQo HQ hr;clear hr;replace hk:=hk.gb hb g hp;have hk2:=hk.kids hb (rl.mono λg hg _=>(⟨by have:w3.heap.size<=g:=hg;omega,by have:w3.heap.size<=g:=hg;omega⟩:but w (w.heap.size+1) g));have hL:=hk.blk;obtain⟨cl_0,cl_1,cl_2,cl_3,cl_4,cl_5,cl_6,cl_f⟩:=(hL).c7;have hlt:=hL.lt;clear hk rl;go_wp2_with fail;replace gr:=hk2.gr;refine(CM hk2.par [125]).mono ?_;intro e w5 hq;obtain⟨g,⟨q,hr,rfl⟩| ⟨_,j4,v,hr,rfl,rfl,hp⟩⟩:=hq.split
   ·exact PBd gr g HQ hr
   replace gr:=Z gr g;replace HQ:=HQo HQ hr;clear hr;have hk:=hk2.gb hb g hp;clear cl_0 cl_1 cl_2 cl_3 cl_4 cl_5 cl_6 cl_f hL hk2 g;have hL:=hk.blk;have hZ:=hk.zero;have hwL:=hk.wL;have HK:=S hk;clear hk hp;obtain⟨cl_0,cl_1,cl_2,cl_3,cl_4,cl_5,cl_6,cl_f⟩:=(hL).c7;have cz_:=hZ.c7;go_wp2;have hk:=HK.1;exact bZ (AK rfl _ (hZ.set7 _ _ _ _ _ _ _) rfl) rfl (Br hb HQ.1.symm hk.gr ⟨_,_,_,_,rfl,hk.rp,hk.rl⟩ (by intro k hk;exact hk.1) hk.par (A2 _ _ _ _ _ _ _ _ _))
end
variable{b i n k:Nat}{tv wv:Value}{l:List Tok}{wl:List Bs}{w w1:World}{E:Nat->Res Ex}{day:Bs->Int}
def M8(n:Int)(w:World):Calls Tryz.prog 359 #[.int .i64 n] w (ρ w (exV (A7 2 n []).h (.slice none 0 0) (.slice none 0 0))):=by
 go_enter func359,ntmps359;go_wp2;refine bZ (v:=exV (A7 2 n []).h (.slice none 0 0) (.slice none 0 0)) ?_ rfl ⟨rfl,(Ac (Aa _ _) _)⟩;simp[results,results359,go_sem,A7]
def N5(n:Int)(w:World):Calls Tryz.prog 367 #[.int .i64 n] w (ρ w (exV (A7 1 n []).h (.slice none 0 0) (.slice none 0 0))):=by
 go_enter func367,ntmps367;go_wp2;refine bZ (v:=exV (A7 1 n []).h (.slice none 0 0) (.slice none 0 0)) ?_ rfl ⟨rfl,(Ac (Aa _ _) _)⟩;simp[results,results367,go_sem,A7]
def TH(hE:CE 208 b tv wv l wl E)(hgo:FO E)(hl:A0 l)(n:Nat):CE 361 b tv wv l wl (Ev l E n):=by
 intro w i hp ho;have hb:=hp.lt;have gr:w.grownBy (w.alloc (.cells zeroE.toArray 163 (0,0))) (some b):=Ac (Aa _ _) _;have hz:=Blk.new w zeroE 163;replace hp:=hp.alloc (.cells zeroE.toArray 163 (0,0));have H:=S (X hE (X hgo (X hl ho)));generalize hR:Ev l E n i=R at*;have HQ:=S hR;rw[Ev]at HQ;clear hE hgo hl ho hR;go_enter func361,ntmps361;go_wp2_with fail;refine mR (Bj hp) λw1 g=>?_;replace hz:=hz.gb g (by simp);replace gr:=Ag gr g;replace hp:=hp.gbN g;clear g;have hs0:=hz.lt;go_wp2_with fail;refine mR (Fg _ _ _ [38] _) λw2 g=>?_;replace hz:=hz.gb g (by simp);replace gr:=Ag gr g;replace hp:=hp.gbN g;replace hs0:=hz.lt;clear g;cases hs:Ah (Ab l i) [38]with
 | true=>
   have hs':((Ab l i).kind==4&&(Ab l i).text==[38])=true:=hs;rw[hs'];rw[if_pos hs]at HQ;go_wp2_with fail;refine(Nu H.1.1 H.1.2.2.1 _ _ hp (λe=>H.1.2.2.2 (by rw[<-HQ.1,e]))).mono ?_;intro e w3 hq;obtain⟨g,⟨q,hr,rfl⟩| ⟨x,j,v,hr,rfl,⟨pa,pc,la,lc,rfl,rp,rl⟩,hp⟩⟩:=hq.split
   ·exact⟨rfl,Post.bad (Z gr g) (by rw[<-HQ.1,hr])⟩
   replace gr:=Z gr g;rw[hr]at HQ;clear hr;replace hz:=hz.gb g (by simp;omega);have cz_:=hz.c7;have HV:=S (X rp rl);clear rp rl g;go_wp2;exact bZ (AK rfl _ (hz.set7 _ _ _ _ _ _ _) rfl) rfl (Br hb HQ.1.symm gr ⟨_,_,_,_,rfl,HV.1.1,HV.1.2⟩ (by intro k hk;have:_<=k:=hk;omega) hp (A2 _ _ _ _ _ _ _ _ _))
 |false=>
 have hs':((Ab l i).kind==4&&(Ab l i).text==[38])=false:=hs;rw[hs'];clear hs';rw[if_neg (nF hs)]at HQ;go_wp2_with fail;cases hs:Ah (Ab l i) [46,84,46]with
 | true=>
   refine(Bm hp _ hs).mono ?_;rintro e w3 ⟨rfl,hp',g⟩;replace hz:=hz.gb g (by simp;omega);replace gr:=Z gr g;replace hp:=hp';have hs0:=hz.lt;clear g;rw[if_pos hs]at HQ;go_wp2_with fail;refine mR (N5 _ _) λw4 g=>?_;replace hz:=hz.gb g (by simp);replace gr:=Ag gr g;replace hp:=hp.gbN g;clear g;have cz_:=hz.c7;go_wp2;exact bZ (AK (hd:=(A7 1 1 []:Ex).h) (pv:= .slice none 0 0) (lv:= .slice none 0 0) rfl _ (hz.set7 _ _ _ _ _ _ _) rfl) rfl (Br (ok:=λk=>w.heap.size<k) (x:=A7 1 1 []) hb HQ.1.symm gr ⟨none,0,none,0,rfl,Cells.nil _ _ _,RepL.nil _ _⟩ (λk hk=>hk) hp (A2 _ _ _ _ _ _ _ _ _))
 |false=>
 refine mR (Bb hp _ hs) λw3 g=>?_;replace hz:=hz.gb g (by simp);replace gr:=Ag gr g;replace hp:=hp.gbN g;clear g;rw[if_neg (nF hs)]at HQ;go_wp2_with fail;cases hs:Ah (Ab l i) [46,70,46]with
 | true=>
   refine(Bm hp _ hs).mono ?_;rintro e w4 ⟨rfl,hp',g⟩;replace hz:=hz.gb g (by simp;omega);replace gr:=Z gr g;replace hp:=hp';have hs0:=hz.lt;clear g;rw[if_pos hs]at HQ;go_wp2_with fail;refine mR (N5 _ _) λw5 g=>?_;replace hz:=hz.gb g (by simp);replace gr:=Ag gr g;replace hp:=hp.gbN g;clear g;have cz_:=hz.c7;go_wp2;exact bZ (AK (hd:=(A7 1 0 []:Ex).h) (pv:= .slice none 0 0) (lv:= .slice none 0 0) rfl _ (hz.set7 _ _ _ _ _ _ _) rfl) rfl (Br (ok:=λk=>w.heap.size<k) (x:=A7 1 0 []) hb HQ.1.symm gr ⟨none,0,none,0,rfl,Cells.nil _ _ _,RepL.nil _ _⟩ (λk hk=>hk) hp (A2 _ _ _ _ _ _ _ _ _))
 |false=>
 refine mR (Bb hp _ hs) λw4 g=>?_;replace hz:=hz.gb g (by simp);replace gr:=Ag gr g;replace hp:=hp.gbN g;clear g;rw[if_neg (nF hs)]at HQ;go_wp2_with fail;cases hs:Ah (Ab l i) [46,78,85,76,76,46]with
 | true=>
   refine(Bm hp _ hs).mono ?_;rintro e w5 ⟨rfl,hp',g⟩;replace hz:=hz.gb g (by simp;omega);replace gr:=Z gr g;replace hp:=hp';have hs0:=hz.lt;clear g;rw[if_pos hs]at HQ;have cz_:=hz.c7;go_wp2;exact bZ (AK (hd:=(A7 0 0 []:Ex).h) (pv:= .slice none 0 0) (lv:= .slice none 0 0) rfl _ (hz.set7 _ _ _ _ _ _ _) rfl) rfl (Br (ok:=λk=>w.heap.size<k) (x:=A7 0 0 []) hb HQ.1.symm gr ⟨none,0,none,0,rfl,Cells.nil _ _ _,RepL.nil _ _⟩ (λk hk=>hk) hp (A2 _ _ _ _ _ _ _ _ _))
 |false=>
 refine mR (Bb hp _ hs) λw5 g=>?_;replace hz:=hz.gb g (by simp);replace gr:=Ag gr g;replace hp:=hp.gbN g;clear g;rw[if_neg (nF hs)]at HQ;go_wp2_with fail;cases hs:Ah (Ab l i) [40]with
 | true=>
   refine(Bm hp _ hs).mono ?_;rintro e w6 ⟨rfl,hp',g⟩;replace hz:=hz.gb g (by simp;omega);replace gr:=Z gr g;replace hp:=hp';have hs0:=hz.lt;clear g;rw[if_pos hs]at HQ;go_wp2_with fail;refine(H.1.1 _ _ hp (λe=>H.1.2.2.2 (by rw[<-HQ.1,e];rfl))).mono ?_;intro e w7 hq;obtain⟨g,⟨q,hr,rfl⟩| ⟨x,j,v,hr,rfl,⟨pa,pc,la,lc,rfl,rp,rl⟩,hp⟩⟩:=hq.split
   ·exact PBd gr g HQ hr
   replace gr:=Z gr g;replace HQ:=HQo HQ hr;clear hr;replace hz:=hz.gb g (by simp;omega);have hk:=Kept.new hb gr hz hp (rp.mono λg hg _=>by have:w6.heap.size<=g:=hg;show w.heap.size<g;omega) (rl.mono λg hg _=>by have:w6.heap.size<=g:=hg;show w.heap.size<g;omega) rfl;clear rp rl g hz;go_wp2_with fail;replace gr:=hk.gr;refine(CM hk.par [41]).mono ?_;intro e w8 hq;obtain⟨g,⟨q,hr,rfl⟩| ⟨_,j2,v,hr,rfl,rfl,hp⟩⟩:=hq.split
   ·exact PBd gr g HQ hr
   replace gr:=Z gr g;replace HQ:=HQo HQ hr;clear hr;replace hk:=hk.gb hb g hp;clear g;have hL:=hk.blk;have hZ:=hk.zero;have hwL:=hk.wL;have HK:=S hk;clear hk hp;have cl_:=hL.c7;have cz_:=hZ.c7;go_wp2;have hk:=HK.1;exact bZ (AK rfl _ (hZ.set7 _ _ _ _ _ _ _) rfl) rfl (Br hb HQ.1.symm hk.gr ⟨_,_,_,_,rfl,hk.rp,hk.rl⟩ (by intro k hk;exact hk.1) hk.par (A2 _ _ _ _ _ _ _ _ _))
 |false=>
 refine mR (Bb hp _ hs) λw6 g=>?_;replace hz:=hz.gb g (by simp);replace gr:=Ag gr g;replace hp:=hp.gbN g;clear g;rw[if_neg (nF hs)]at HQ;go_wp2_with fail;cases hs:Ah (Ab l i) [64]with
 | true=>
   refine(Bm hp _ hs).mono ?_;rintro e w7 ⟨rfl,hp',g⟩;replace hz:=hz.gb g (by simp;omega);replace gr:=Z gr g;replace hp:=hp';have hs0:=hz.lt;clear g;rw[if_pos hs]at HQ;go_wp2_with fail;refine(B7 hp H.1.2.2.1).mono ?_;intro e w8 hq;obtain⟨g,⟨q,hr,rfl⟩| ⟨s,j,v,hr,rfl,rfl,hp⟩⟩:=hq.split
   ·exact PBd gr g HQ hr
   replace gr:=Z gr g;replace HQ:=HQo HQ hr;clear hr;replace hz:=hz.gb g (by simp;omega);clear g;have cz_:=hz.c7;go_wp2;exact bZ (AK (hd:=(⟨hd0 10 s,.nil⟩:Ex).h) (pv:= .slice none 0 0) (lv:= .slice none 0 0) rfl _ (hz.set7 _ _ _ _ _ _ _) rfl) rfl (Br (ok:=λk=>w.heap.size<k) (x:=⟨hd0 10 s,.nil⟩) hb HQ.1.symm gr ⟨none,0,none,0,rfl,Cells.nil _ _ _,RepL.nil _ _⟩ (λk hk=>hk) hp (A2 _ _ _ _ _ _ _ _ _))
 |false=>
 refine mR (Bb hp _ hs) λw7 g=>?_;replace hz:=hz.gb g (by simp);replace gr:=Ag gr g;replace hp:=hp.gbN g;clear g;rw[if_neg (nF hs)]at HQ;go_wp2_with fail;cases hs:Ah (Ab l i) [123]with
 | true=>
   refine(Bm hp _ hs).mono ?_;rintro e w8 ⟨rfl,hp',g⟩;replace hz:=hz.gb g (by simp;omega);replace gr:=Z gr g;replace hp:=hp';have hs0:=hz.lt;clear g;rw[if_pos hs]at HQ;go_wp2_with fail;refine(Sg H.1.1 H.1.2.1 H.1.2.2.1 n _ _ hp (λe=>H.1.2.2.2 (by rw[<-HQ.1,e]))).mono ?_;intro e w9 hq;obtain⟨g,⟨q,hr,rfl⟩| ⟨x,j,v,hr,rfl,⟨pa,pc,la,lc,rfl,rp,rl⟩,hp⟩⟩:=hq.split
   ·exact⟨rfl,Post.bad (Z gr g) (by rw[<-HQ.1,hr])⟩
   replace gr:=Z gr g;rw[hr]at HQ;clear hr;replace hz:=hz.gb g (by simp;omega);have cz_:=hz.c7;have HV:=S (X rp rl);clear rp rl g;go_wp2;exact bZ (AK rfl _ (hz.set7 _ _ _ _ _ _ _) rfl) rfl (Br hb HQ.1.symm gr ⟨_,_,_,_,rfl,HV.1.1,HV.1.2⟩ (by intro k hk;have:_<=k:=hk;omega) hp (A2 _ _ _ _ _ _ _ _ _))
 |false=>
 refine mR (Bb hp _ hs) λw8 g=>?_;replace hz:=hz.gb g (by simp);replace gr:=Ag gr g;replace hp:=hp.gbN g;clear g;rw[if_neg (nF hs)]at HQ;go_wp2_with fail;refine(DV hp.c1).mono ?_;rintro e w9 ⟨rfl,rfl⟩;exact⟨rfl,Post.bad gr HQ.1.symm⟩
def Uv(hE:CE 208 b tv wv l wl E)(hgo:FO E)(hl:A0 l)(n:Nat):CE 360 b tv wv l wl (E4 l E n):=by
 intro w i hp ho;have hb:=hp.lt;have gr:w.grownBy (w.alloc (.cells zeroE.toArray 163 (0,0))) (some b):=Ac (Aa _ _) _;have hz:=Blk.new w zeroE 163;replace hp:=hp.alloc (.cells zeroE.toArray 163 (0,0));have H:=S (X hE (X hgo (X hl ho)));generalize hR:E4 l E n i=R at*;have HQ:=S hR;rw[E4]at HQ;clear hE hgo hl ho hR;go_enter func360,ntmps360;go_wp2_with fail;refine mR (Ig hp) λw1 g=>?_;replace hz:=hz.gb g (by simp);replace gr:=Ag gr g;replace hp:=hp.gbN g;clear g;have hs0:=hz.lt;go_wp2_with fail;refine mR (Fg _ _ _ [40] _) λw2 g=>?_;replace hz:=hz.gb g (by simp);replace gr:=Ag gr g;replace hp:=hp.gbN g;replace hs0:=hz.lt;clear g;cases hs:Ah (Ab l (i+1)) [40]with
 | true=>
   have hs':((Ab l (i+1)).kind==4&&(Ab l (i+1)).text==[40])=true:=hs;rw[hs'];rw[if_pos hs]at HQ;go_wp2_with fail;refine(NU H.1.1 H.1.2.1 H.1.2.2.1 n _ _ hp (λe=>H.1.2.2.2 (by rw[<-HQ.1,e]))).mono ?_;intro e w3 hq;obtain⟨g,⟨q,hr,rfl⟩| ⟨x,j,v,hr,rfl,⟨pa,pc,la,lc,rfl,rp,rl⟩,hp⟩⟩:=hq.split
   ·exact⟨rfl,Post.bad (Z gr g) (by rw[<-HQ.1,hr])⟩
   replace gr:=Z gr g;rw[hr]at HQ;clear hr;replace hz:=hz.gb g (by simp;omega);have cz_:=hz.c7;have HV:=S (X rp rl);clear rp rl g;go_wp2;exact bZ (AK rfl _ (hz.set7 _ _ _ _ _ _ _) rfl) rfl (Br hb HQ.1.symm gr ⟨_,_,_,_,rfl,HV.1.1,HV.1.2⟩ (by intro k hk;have:_<=k:=hk;omega) hp (A2 _ _ _ _ _ _ _ _ _))
 |false=>
 have hs':((Ab l (i+1)).kind==4&&(Ab l (i+1)).text==[40])=false:=hs;rw[hs'];clear hs';rw[if_neg (nF hs)]at HQ;go_wp2_with fail;refine(LT hp H.1.2.2.1).mono ?_;intro e w3 hq;obtain⟨g,⟨q,hr,rfl⟩| ⟨s,j,v,hr,rfl,rfl,hp⟩⟩:=hq.split
 ·exact PBd gr g HQ hr
 replace gr:=Z gr g;replace HQ:=HQo HQ hr;clear hr;replace hz:=hz.gb g (by simp;omega);clear g;go_wp2_with fail;cases hs:Ah (Ab l j) [45,62]with
 | false=>
   refine mR (Bb hp _ hs) λw4 g=>?_;replace hz:=hz.gb g (by simp);replace gr:=Ag gr g;replace hp:=hp.gbN g;clear g;rw[if_neg (nF hs)]at HQ;have cz_:=hz.c7;go_wp2;exact bZ (AK (hd:=(AH s:Ex).h) (pv:= .slice none 0 0) (lv:= .slice none 0 0) rfl _ (hz.set7 _ _ _ _ _ _ _) rfl) rfl (Br (ok:=λk=>w.heap.size<k) (x:=AH s) hb HQ.1.symm gr ⟨none,0,none,0,rfl,Cells.nil _ _ _,RepL.nil _ _⟩ (λk hk=>hk) hp (A2 _ _ _ _ _ _ _ _ _))
 |true=>
 refine(Bm hp _ hs).mono ?_;rintro e w4 ⟨rfl,hp',g⟩;replace hz:=hz.gb g (by simp;omega);replace gr:=Z gr g;replace hp:=hp';have hs0:=hz.lt;clear g;rw[if_pos hs]at HQ;go_wp2_with fail;cases hs:Ah (Ab l (j+1)) [40]with
 | true=>
   refine(Bm hp _ hs).mono ?_;rintro e w5 ⟨rfl,hp',g⟩;replace hz:=hz.gb g (by simp;omega);replace gr:=Z gr g;replace hp:=hp';have hs0:=hz.lt;clear g;rw[if_pos hs]at HQ;go_wp2_with fail;refine(H.1.1 _ _ hp (λe=>H.1.2.2.2 (by rw[<-HQ.1,e];rfl))).mono ?_;intro e w6 hq;obtain⟨g,⟨q,hr,rfl⟩| ⟨x,j2,v,hr,rfl,⟨pa,pc,la,lc,rfl,rp,rl⟩,hp⟩⟩:=hq.split
   ·exact PBd gr g HQ hr
   replace gr:=Z gr g;replace HQ:=HQo HQ hr;clear hr;replace hz:=hz.gb g (by simp;omega);have hk:=Kept.new hb gr hz hp (rp.mono λg hg _=>by have:w5.heap.size<=g:=hg;show w.heap.size<g;omega) (rl.mono λg hg _=>by have:w5.heap.size<=g:=hg;show w.heap.size<g;omega) rfl;clear rp rl g hz;go_wp2_with fail;replace gr:=hk.gr;refine(CM hk.par [41]).mono ?_;intro e w7 hq;obtain⟨g,⟨q,hr,rfl⟩| ⟨_,j3,v,hr,rfl,rfl,hp⟩⟩:=hq.split
   ·exact PBd gr g HQ hr
   replace gr:=Z gr g;replace HQ:=HQo HQ hr;clear hr;replace hk:=hk.gb hb g hp;clear g;have hz:=hk.zero;have hL:=hk.blk;have rp:=hk.rp.mono (ok':=λg=>w.heap.size<g) (λg hg _=>hg.1);have rl:=hk.rl.mono (ok':=λg=>w.heap.size<g) (λg hg _=>hg.1);have hwL:=hk.wL;have hltL:=hL.lt;clear hk;have cl_:=hL.c7;have HV:=S (X rp rl);clear rp rl;have cz_:=hz.c7;have hltz:=hz.lt;go_wp2;have g7:=A2 w7 w.heap.size (.int .i64 2) (str s) (.int .i64 0) (.int .i64 0) (str []) (.slice none 0 0) (.slice (some ⟨w7.heap.size,0,none⟩) 1 1);have hW:=hz.set7 (.int .i64 2) (str s) (.int .i64 0) (.int .i64 0) (str []) (.slice none 0 0) (.slice (some ⟨w7.heap.size,0,none⟩) 1 1);have hsz:(set7 w7 w.heap.size (.int .i64 2) (str s) (.int .i64 0) (.int .i64 0) (str []) (.slice none 0 0) (.slice (some ⟨w7.heap.size,0,none⟩) 1 1)).heap.size=w7.heap.size:=by simp[set7]
   simp only[set7]at hW g7 hsz;generalize(((((((w7.setCell {block:=w.heap.size,off:=0} (.int .i64 2)).setCell {block:=w.heap.size,off:=1} (str s)).setCell {block:=w.heap.size,off:=2} (.int .i64 0)).setCell {block:=w.heap.size,off:=3} (.int .i64 0)).setCell {block:=w.heap.size,off:=4} (str [])).setCell {block:=w.heap.size,off:=5} (.slice none 0 0)).setCell {block:=w.heap.size,off:=6} (.slice (some ⟨w7.heap.size,0,none⟩) 1 1))=W' at*;exact bZ (AK (hd:=hd0 2 s) (pv:= .slice none 0 0) (lv:= .slice (some ⟨w7.heap.size,0,none⟩) 1 1) rfl _ (Blk.alloc hW (Obj.cells #[Value.int IntKind.i64 x.h.op,str x.h.s,Value.int IntKind.i64 x.h.vk,Value.int IntKind.i64 x.h.vn,str x.h.vs,Value.slice pa x.h.p.length pc,Value.slice la x.kids.len lc] 163)) rfl) rfl (Ih (op:=2) (s:=s) hb HQ.1.symm gr HV.1.1 HV.1.2 (λk hk=>hk) hp g7 hsz)
 | false=>
   refine mR (Bb hp _ hs) λw5 g=>?_;replace hz:=hz.gb g (by simp);replace gr:=Ag gr g;replace hp:=hp.gbN g;clear g;rw[if_neg (nF hs)]at HQ;go_wp2_with fail;refine(LT hp H.1.2.2.1).mono ?_;intro e w6 hq;obtain⟨g,⟨q,hr,rfl⟩| ⟨t,j2,v,hr,rfl,rfl,hp⟩⟩:=hq.split
   ·exact PBd gr g HQ hr
   replace gr:=Z gr g;replace HQ:=HQo HQ hr;clear hr;replace hz:=hz.gb g (by simp;omega);clear g;have rp:=Cells.nil w6 1 (λg=>w.heap.size<g);have rl:=RepL.nil w6 (λg=>w.heap.size<g);have HV:=S (X rp rl);clear rp rl;have cz_:=hz.c7;have hltz:=hz.lt;go_wp2;have g7:=A2 w6 w.heap.size (.int .i64 2) (str s) (.int .i64 0) (.int .i64 0) (str []) (.slice none 0 0) (.slice (some ⟨w6.heap.size,0,none⟩) 1 1);have hW:=hz.set7 (.int .i64 2) (str s) (.int .i64 0) (.int .i64 0) (str []) (.slice none 0 0) (.slice (some ⟨w6.heap.size,0,none⟩) 1 1);have hsz:(set7 w6 w.heap.size (.int .i64 2) (str s) (.int .i64 0) (.int .i64 0) (str []) (.slice none 0 0) (.slice (some ⟨w6.heap.size,0,none⟩) 1 1)).heap.size=w6.heap.size:=by simp[set7]
   simp only[set7]at hW g7 hsz;generalize(((((((w6.setCell {block:=w.heap.size,off:=0} (.int .i64 2)).setCell {block:=w.heap.size,off:=1} (str s)).setCell {block:=w.heap.size,off:=2} (.int .i64 0)).setCell {block:=w.heap.size,off:=3} (.int .i64 0)).setCell {block:=w.heap.size,off:=4} (str [])).setCell {block:=w.heap.size,off:=5} (.slice none 0 0)).setCell {block:=w.heap.size,off:=6} (.slice (some ⟨w6.heap.size,0,none⟩) 1 1))=W' at*;exact bZ (AK (hd:=hd0 2 s) (pv:= .slice none 0 0) (lv:= .slice (some ⟨w6.heap.size,0,none⟩) 1 1) rfl _ (Blk.alloc hW (Obj.cells #[Value.int IntKind.i64 (AH t).h.op,str (AH t).h.s,Value.int IntKind.i64 (AH t).h.vk,Value.int IntKind.i64 (AH t).h.vn,str (AH t).h.vs,Value.slice none (AH t).h.p.length 0,Value.slice none (AH t).kids.len 0] 163)) rfl) rfl (Ih (op:=2) (s:=s) hb HQ.1.symm gr HV.1.1 HV.1.2 (λk hk=>hk) hp g7 hsz)
structure En(day:Bs->Int)(l:List Tok):Prop where
 short:A0 l
 num:∀i,(Ab l i).kind=1->(Ab l i).text.length<=18/\Lib.atoi (Ab l i).text=some (AA (Ab l i).text)
 date:∀i,(Ab l i).kind=3->∀w,Calls Tryz.prog 318 #[str (Ab l i).text] w λe w'=>(∃v,e= .returned (.tuple #[.int .i64 (day (Ab l i).text),v]))/\w.grownBy w' none
def Par.goA(h:Par w b tv wv l wl i)(hi:i<l.length)(o:Obj):Par ((w.setCell ⟨b,1,none⟩ (.int .i64 (i+1))).alloc o) b tv wv l wl (i+1):=(h.goI _ _ (by omega) (by omega)).alloc o
def WU(hE:CE 208 b tv wv l wl E)(hgo:FO E)(hl:En day l)(n:Nat):CE 343 b tv wv l wl (DQ l day E n):=by
 intro w i hp ho;have hb:=hp.lt;have gr:w.grownBy (w.alloc (.cells zeroE.toArray 163 (0,0))) (some b):=Ac (Aa _ _) _;have hz:=Blk.new w zeroE 163;replace hp:=hp.alloc (.cells zeroE.toArray 163 (0,0));have H:=S (X hE (X hgo (X hl ho)));generalize hR:DQ l day E n i=R at*;have HQ:=S hR;rw[DQ]at HQ;clear hE hgo ho hR;have hnum:=hl.num i;have hdate:=hl.date i;have hilt:=λh=>@Hl l i h;go_enter func343,ntmps343;go_wp2_with fail;refine mR (Bj hp) λw1 g=>?_;generalize Ab l i=t at*;obtain⟨kd,ps,tx⟩:=t;simp only at HQ hnum hdate hilt;replace hz:=hz.gb g (by simp);replace gr:=Ag gr g;replace hp:=hp.gbN g;clear g hl;have hs0:=hz.lt;have hb1:=hp.lt;have c1:=hp.c1;have f1:=hp.f1;have hf:=hp.few;by_cases h1:kd=1
 ·subst h1;have hi:=hilt (by decide);obtain⟨hn1,hn2⟩:=hnum rfl;have HN:=S hn2;clear hn2 hnum hdate hilt;simp only[BEq.rfl,if_true]at HQ;have HP:=S (hp.goA hi (.cells [.int .i64 1,.int .i64 ps,str tx].toArray 250 (0,0)));go_wp2_with fail;refine(strconv_Atoi ⟨tx.toArray⟩ (AA tx) hn1 HN.1 _).mono ?_;rintro e w2 ⟨rfl,t',e2⟩;have g2:=QO (Go.Joins.below_bytesWorld _ ((w1.setCell ⟨b,1,none⟩ (.int .i64 (i+1))).alloc (.cells [.int .i64 1,.int .i64 ps,str tx].toArray 250 (0,0))) 5 t' (nR _));replace e2:w2=_:=e2;rw[<-e2]at g2;have g02:w1.grownBy w2 (some b):=Ag (Ac (Af (Aa _ _) _ _ (.inl rfl)) _) g2;replace gr:=Z gr g02;replace hz:=hz.gb g02 (by simp;omega);replace hp:=HP.1.gbN g2;have hs2:=g02.size;clear e2 g2 g02 HP c1 f1;go_wp2_with fail;refine mR (M8 _ _) λw3 g3=>?_;replace hz:=hz.gb g3 (by simp);replace gr:=Ag gr g3;replace hp:=hp.gbN g3;clear g3;have cz_:=hz.c7;go_wp2;exact bZ (AK (hd:=(A7 2 (AA tx) []:Ex).h) (pv:= .slice none 0 0) (lv:= .slice none 0 0) rfl _ (hz.set7 _ _ _ _ _ _ _) rfl) rfl (Br (ok:=λk=>w.heap.size<k) (x:=A7 2 (AA tx) []) hb HQ.1.symm gr ⟨none,0,none,0,rfl,Cells.nil _ _ _,RepL.nil _ _⟩ (λk hk=>hk) hp (A2 _ _ _ _ _ _ _ _ _))
 by_cases h2:kd=2
 ·subst h2;have hi:=hilt (by decide);clear hnum hdate hilt h1;simp only[Int.reduceBEq,Bool.false_eq_true,if_false,if_true]at HQ;by_cases h3:tx.length>2048
  ·rw[if_pos h3]at HQ;replace hp:=hp.alloc (.cells [.int .i64 2,.int .i64 ps,str tx].toArray 250 (0,0));replace gr:=Ac gr (.cells [.int .i64 2,.int .i64 ps,str tx].toArray 250 (0,0));go_wp2_with fail;refine(DV hp.c1).mono ?_;rintro e w9 ⟨rfl,rfl⟩;exact⟨rfl,Post.bad gr HQ.1.symm⟩
  ·rw[if_neg h3]at HQ;have gW:=Ai (Aa w1 (some b)) 1 (.int .i64 (i+1));have hp1:=hp.goI (i+1) (i+1) rfl (by omega);have hz1:=hz.gb gW (by simp;omega);have cz_:=hz.c7;go_wp2;exact bZ (AK (hd:=(A7 4 0 tx).h) (pv:= .slice none 0 0) (lv:= .slice none 0 0) rfl _ ((hz1.set7 _ _ _ _ _ _ _).alloc _) rfl) rfl (Br (ok:=λk=>w.heap.size<k) (x:=A7 4 0 tx) hb HQ.1.symm (Z gr gW) ⟨none,0,none,0,rfl,Cells.nil _ _ _,RepL.nil _ _⟩ (λk hk=>hk) hp1 (Ac (A2 _ _ _ _ _ _ _ _ _) _))
 by_cases h3:kd=3
 ·subst h3;have hi:=hilt (by decide);have HD:=S (hdate rfl);clear hnum hdate hilt h1 h2;simp only[Int.reduceBEq,Bool.false_eq_true,if_false,if_true]at HQ;have HP:=S (hp.goA hi (.cells [.int .i64 3,.int .i64 ps,str tx].toArray 250 (0,0)));have g02:w1.grownBy ((w1.setCell ⟨b,1,none⟩ (.int .i64 (i+1))).alloc (.cells [.int .i64 3,.int .i64 ps,str tx].toArray 250 (0,0))) (some b):=Ac (Af (Aa _ _) _ _ (.inl rfl)) _;go_wp2_with fail;refine(HD.1 _).mono ?_;rintro e w2 ⟨⟨v,rfl⟩,g2⟩;replace g02:=Ag g02 g2;replace gr:=Z gr g02;replace hz:=hz.gb g02 (by simp;omega);replace hp:=HP.1.gbN g2;clear g2 g02 HP c1 f1;have cz_:=hz.c7;go_wp2;exact bZ (AK (hd:=(A7 3 (day tx) []:Ex).h) (pv:= .slice none 0 0) (lv:= .slice none 0 0) rfl _ (hz.set7 _ _ _ _ _ _ _) rfl) rfl (Br (ok:=λk=>w.heap.size<k) (x:=A7 3 (day tx) []) hb HQ.1.symm gr ⟨none,0,none,0,rfl,Cells.nil _ _ _,RepL.nil _ _⟩ (λk hk=>hk) hp (A2 _ _ _ _ _ _ _ _ _))
 have hd1:(kd==1)=false:=by simpa using h1
 have hd2:(kd==2)=false:=by simpa using h2
 have hd3:(kd==3)=false:=by simpa using h3
 simp only[hd1,hd2,hd3,Bool.false_eq_true,if_false]at HQ;replace hp:=hp.alloc (.cells [.int .i64 kd,.int .i64 ps,str tx].toArray 250 (0,0));replace gr:=Ac gr (.cells [.int .i64 kd,.int .i64 ps,str tx].toArray 250 (0,0));replace hz:=hz.alloc (.cells [.int .i64 kd,.int .i64 ps,str tx].toArray 250 (0,0));have hlz:=hz.lt;by_cases h0:kd=0
 ·subst h0;simp only[BEq.rfl,if_true]at HQ;clear hd1 hd2 hd3 h1 h2 h3 hnum hdate hilt;go_wp2_with fail;refine(Uv H.1.1 H.1.2.1 H.1.2.2.1.short n _ _ hp (λe=>H.1.2.2.2 (by rw[<-HQ.1,e]))).mono ?_;intro e w3 hq;obtain⟨g,⟨q,hr,rfl⟩| ⟨x,j,v,hr,rfl,⟨pa,pc,la,lc,rfl,rp,rl⟩,hp⟩⟩:=hq.split
  ·exact⟨rfl,Post.bad (Z gr g) (by rw[<-HQ.1,hr])⟩
  replace gr:=Z gr g;rw[hr]at HQ;clear hr;replace hz:=hz.gb g (by simp;omega);have cz_:=hz.c7;have HV:=S (X rp rl);clear rp rl g;go_wp2;exact bZ (AK rfl _ (hz.set7 _ _ _ _ _ _ _) rfl) rfl (Br hb HQ.1.symm gr ⟨_,_,_,_,rfl,HV.1.1,HV.1.2⟩ (by intro k hk;have:_<=k:=hk;omega) hp (A2 _ _ _ _ _ _ _ _ _))
 have hd0:(kd==0)=false:=by simpa using h0
 simp only[hd0,Bool.false_eq_true,if_false]at HQ;clear hnum hdate hilt;go_wp2_with fail;refine(TH H.1.1 H.1.2.1 H.1.2.2.1.short n _ _ hp (λe=>H.1.2.2.2 (by rw[<-HQ.1,e]))).mono ?_;intro e w3 hq;obtain⟨g,⟨q,hr,rfl⟩| ⟨x,j,v,hr,rfl,⟨pa,pc,la,lc,rfl,rp,rl⟩,hp⟩⟩:=hq.split
 ·exact⟨rfl,Post.bad (Z gr g) (by rw[<-HQ.1,hr])⟩
 replace gr:=Z gr g;rw[hr]at HQ;clear hr;replace hz:=hz.gb g (by simp;omega);have cz_:=hz.c7;have HV:=S (X rp rl);clear rp rl g;go_wp2;exact bZ (AK rfl _ (hz.set7 _ _ _ _ _ _ _) rfl) rfl (Br hb HQ.1.symm gr ⟨_,_,_,_,rfl,HV.1.1,HV.1.2⟩ (by intro k hk;have:_<=k:=hk;omega) hp (A2 _ _ _ _ _ _ _ _ _))
def MX(l:List Tok)(day:Bs->Int)(n:Nat):FO (Ak l day n):=by
 intro i x j h;have:=GX (l:=l) day n i;rw[h]at this;exact this.1
def MV(hl:En day l):∀n,CE 208 b tv wv l wl (Ak l day n):=by
 intro n;induction n with
 |zero=>intro w i h ho;exact absurd rfl ho
 | succ n ih=>
   have hp:=WU ih (MX l day n) hl n;have hu:=Wr ih hp n;have hw:=Y3 hu n;exact zGaa.1 (Zk (sumf:=sumM l n _) (zGaa.2 hw n) n) n
def Q7(i:Int)(w:World):(binOp .neq 20 (.iface 281 (.agg #[.int .i64 i])) .nilIface).run Tryz.prog w= .ok (.bool true) w:=by kernel_rfl
def Q6(w:World):(binOp .neq 20 .nilIface .nilIface).run Tryz.prog w= .ok (.bool false) w:=by kernel_rfl
def Sk(p:Addr)(w:World):
 CallsD Tryz.prog 235 #[.pointer (some p)] .returning w λe u' w'=>e= .returned (.tuple #[])/\u'= .returning/\w'=w:=by
 have hnn:=Q6;refine callsD_of_wpS func235 rfl λc₀ cs hu=>?_;apply wpS_seq;apply wpS_region;simp[wpOpsS,go_sem,recoverD,hu,hnn,ntmps235,Exit.thenS];apply wpS_seq;apply wpS_region;simp[wpOpsS,go_sem,hnn,Exit.thenS];refine wpS_cond (t:=false) (by simp[Act.eval,Array.replicate]) ?_;simp only[Bool.false_eq_true,if_false];refine wpS_of_wp (wp_skip ?_);cases c₀;simp_all [bodyPostS,results,results235]
def Rj(i:Int)(w:World):(Instr.typeAssert (.iface 281 (.agg #[.int .i64 i])) 20 281 true).run Tryz.prog w= .ok (.tuple #[.agg #[.int .i64 i],.bool true]) w:=by kernel_rfl
def Mp{i:Int}{x:Value}(hc:w.cell? ⟨k,0,none⟩=some x)(hz:w.frozen? ⟨k,0,none⟩=false):
 CallsD Tryz.prog 235 #[.pointer (some ⟨k,0,none⟩)] (.panicking [{v:= .iface 281 (.agg #[.int .i64 i]),recovered:=false}]) w λe u' w'=>
  e= .returned (.tuple #[])/\u'= .panicking [{v:= .iface 281 (.agg #[.int .i64 i]),recovered:=true}]/\w'=(w.setCell ⟨k,0,none⟩ (.int .i64 i)).alloc (.cells #[.int .i64 i] 281 (0,0)):=by
 have hnn:=Q7 i;have hk:=bY w _ hc;refine callsD_of_wpS func235 rfl λc₀ cs hu=>?_;simp only[ntmps235,List.size_toArray,List.length_cons,List.length_nil,Nat.reduceAdd,Nat.reduceSub,Array.replicate_succ,Array.replicate_zero,List.push_toArray,List.append_toArray,List.nil_append,List.cons_append];apply wpS_seq;apply wpS_region;simp[wpOpsS,go_sem,recoverD,hu,hnn,ntmps235,Exit.thenS];apply wpS_seq;apply wpS_region;simp[wpOpsS,go_sem,hnn,Exit.thenS];refine wpS_cond (t:=true) (by simp[Act.eval,Array.replicate]) ?_;simp only[if_true];refine wpS_of_wp ?_;have hta:=Rj i;go_wp2;exact⟨rfl,_,rfl,_,by simp[results,results235,go_sem],rfl,rfl,rfl⟩
open Go.Sort
def wordsText:Bs:=[80,82,79,67,69,68,85,82,69,32,70,85,78,67,84,73,79,78,32,76,79,67,65,76,32,80,82,73,86,65,84,69,32,80,85,66,76,73,67,32,83,84,65,84,73,67,32,73,70,32,69,76,83,69,73,70,32,69,76,83,69,32,69,78,68,73,70,32,68,79,32,67,65,83,69,32,79,84,72,69,82,87,73,83,69,32,69,78,68,67,65,83,69,32,87,72,73,76,69,32,69,78,68,68,79,32,70,79,82,32,84,79,32,83,84,69,80,32,78,69,88,84,32,76,79,79,80,32,69,88,73,84,32,82,69,84,85,82,78,32,87,73,84,72,32,66,82,69,65,75,32,66,69,71,73,78,32,83,69,81,85,69,78,67,69,32,82,69,67,79,86,69,82,32,85,83,73,78,71,32,69,78,68,32,83,69,76,69,67,84,32,85,83,69,32,65,76,73,65,83,32,71,79,32,84,79,80,32,66,79,84,84,79,77,32,83,75,73,80,32,83,69,69,75,32,76,79,67,65,84,69,32,67,79,78,84,73,78,85,69,32,82,69,80,76,65,67,69,32,68,69,76,69,84,69,32,82,69,67,65,76,76,32,65,80,80,69,78,68,32,66,76,65,78,75,32,80,65,67,75,32,90,65,80,32,67,79,85,78,84,32,83,85,77,32,73,78,68,69,88,32,79,78,32,84,65,71,32,85,78,73,81,85,69,32,67,65,78,68,73,68,65,84,69,32,68,69,83,67,69,78,68,73,78,71,32,83,69,84,32,79,82,68,69,82,32,70,73,76,84,69,82,32,82,69,76,65,84,73,79,78,32,73,78,84,79,32,69,88,65,67,84,32,68,69,76,69,84,69,68,32,79,70,70,32,65,76,76,32,82,69,83,84,32,82,69,67,79,82,68]
def wordsRaw:List Bs:=[[80,82,79,67,69,68,85,82,69],[70,85,78,67,84,73,79,78],[76,79,67,65,76],[80,82,73,86,65,84,69],[80,85,66,76,73,67],[83,84,65,84,73,67],[73,70],[69,76,83,69,73,70],[69,76,83,69],[69,78,68,73,70],[68,79],[67,65,83,69],[79,84,72,69,82,87,73,83,69],[69,78,68,67,65,83,69],[87,72,73,76,69],[69,78,68,68,79],[70,79,82],[84,79],[83,84,69,80],[78,69,88,84],[76,79,79,80],[69,88,73,84],[82,69,84,85,82,78],[87,73,84,72],[66,82,69,65,75],[66,69,71,73,78],[83,69,81,85,69,78,67,69],[82,69,67,79,86,69,82],[85,83,73,78,71],[69,78,68],[83,69,76,69,67,84],[85,83,69],[65,76,73,65,83],[71,79],[84,79,80],[66,79,84,84,79,77],[83,75,73,80],[83,69,69,75],[76,79,67,65,84,69],[67,79,78,84,73,78,85,69],[82,69,80,76,65,67,69],[68,69,76,69,84,69],[82,69,67,65,76,76],[65,80,80,69,78,68],[66,76,65,78,75],[80,65,67,75],[90,65,80],[67,79,85,78,84],[83,85,77],[73,78,68,69,88],[79,78],[84,65,71],[85,78,73,81,85,69],[67,65,78,68,73,68,65,84,69],[68,69,83,67,69,78,68,73,78,71],[83,69,84],[79,82,68,69,82],[70,73,76,84,69,82],[82,69,76,65,84,73,79,78],[73,78,84,79],[69,88,65,67,84],[68,69,76,69,84,69,68],[79,70,70],[65,76,76],[82,69,83,84],[82,69,67,79,82,68]]
def wordsL:List Bs:=[[65,76,73,65,83],[65,76,76],[65,80,80,69,78,68],[66,69,71,73,78],[66,76,65,78,75],[66,79,84,84,79,77],[66,82,69,65,75],[67,65,78,68,73,68,65,84,69],[67,65,83,69],[67,79,78,84,73,78,85,69],[67,79,85,78,84],[68,69,76,69,84,69],[68,69,76,69,84,69,68],[68,69,83,67,69,78,68,73,78,71],[68,79],[69,76,83,69],[69,76,83,69,73,70],[69,78,68],[69,78,68,67,65,83,69],[69,78,68,68,79],[69,78,68,73,70],[69,88,65,67,84],[69,88,73,84],[70,73,76,84,69,82],[70,79,82],[70,85,78,67,84,73,79,78],[71,79],[73,70],[73,78,68,69,88],[73,78,84,79],[76,79,67,65,76],[76,79,67,65,84,69],[76,79,79,80],[78,69,88,84],[79,70,70],[79,78],[79,82,68,69,82],[79,84,72,69,82,87,73,83,69],[80,65,67,75],[80,82,73,86,65,84,69],[80,82,79,67,69,68,85,82,69],[80,85,66,76,73,67],[82,69,67,65,76,76],[82,69,67,79,82,68],[82,69,67,79,86,69,82],[82,69,76,65,84,73,79,78],[82,69,80,76,65,67,69],[82,69,83,84],[82,69,84,85,82,78],[83,69,69,75],[83,69,76,69,67,84],[83,69,81,85,69,78,67,69],[83,69,84],[83,75,73,80],[83,84,65,84,73,67],[83,84,69,80],[83,85,77],[84,65,71],[84,79],[84,79,80],[85,78,73,81,85,69],[85,83,69],[85,83,73,78,71],[87,72,73,76,69],[87,73,84,72],[90,65,80]]
def Rf:Lib.fields wordsText=wordsRaw:=by decide+kernel
def Rg:(wordsRaw.mergeSort λx y=>decide (x<=y))=wordsL:=by
 refine List.Perm.eq_of_pairwise (le:=λx y=>decide (x<=y)=true) ?_ (List.pairwise_mergeSort ?_ ?_ _) ?_ ((List.mergeSort_perm _ _).trans ?_)
 ·intro a b _ _ h1 h2;exact List.le_antisymm (by simpa using h1) (by simpa using h2)
 ·intro a b c h1 h2;simp only[decide_eq_true_eq]at*;exact List.le_trans h1 h2
 ·intro a b;simp only[Bool.or_eq_true,decide_eq_true_eq];exact List.le_total a b
 ·decide+kernel
 ·exact List.isPerm_iff.1 (by decide+kernel)
def R6:wordsText.all (λb=>decide (b.toNat<128))=true:=by decide+kernel
def Glob (w : World) : Prop := Lib.TabIs Tryz.prog w "strings.asciiSpace" .u8 Lib.asciiSpaceTab
def Hz: Tryz.prog.globalNamed "strings.asciiSpace" = some 4 := by kernel_rfl
def Glob.gb{r:Option Nat}(h:Glob w)(g:w.grownBy w1 r)(hr:some 4≠r):Glob w1:=by
 unfold Glob Lib.TabIs World.var? at*;simp only[Hz,Option.bind_some]at h ⊢;have hlt:4<w.heap.size:=by
  rcases Nat.lt_or_ge 4 w.heap.size with h' |h'
  ·exact h'
  ·rw[Array.getElem?_eq_none h']at h;simp at h
 rw[g.block _ hlt hr];exact h
def Ml(w:World):Holds encStr (w.alloc (.cells (wordsRaw.map λl=>Value.string ⟨l.toArray⟩).toArray 9 (0,0))) w.heap.size 0 wordsRaw.toArray:=by
 intro j hj;have hB:=Blk.new w (wordsRaw.map λl=>Value.string ⟨l.toArray⟩) 9;refine⟨?_,hB.frozen _⟩;rw[hB.cell];simp at hj;simp[encStr,hj]
def QQ(w:World)(n:Nat):Holds encStr (Sort.ahead (w.alloc (.cells (wordsRaw.map fun(l:Bs)=>Value.string ⟨l.toArray⟩).toArray 9 (0,0))) n) w.heap.size 0 wordsRaw.toArray:=Ml w
def UZ{g:Nat}{os:Array Obj}(d:Array (List UInt8)):w.grownBy (grow (putRow encStr (Sort.ahead w n) g 0 d) os) (some g):=by
 refine⟨rfl,rfl,rfl,by simp,λk hk hne=>?_⟩;rw[heap_grow_old _ _ (by simpa using hk)];have:g≠k:=λe=>hne (by rw[e]);simp[putRow,mapBlock,Sort.ahead,Array.getElem?_modify,this]
def WC(hg:Glob w):Calls Tryz.prog 223 #[] w λe w'=>∃wv,e= .returned wv/\SRow w' wv wordsL (An w.heap.size)/\w.grownBy w' none:=by
 go_enter func223,ntmps223;go_wp2_with fail;refine(strings_Fields ⟨wordsText.toArray⟩ w (by decide+kernel) ?_ hg).mono ?_
 ·intro j b hb;have:=List.all_eq_true.1 R6 b (by
   have:wordsText[j]? =some b:=hb;exact List.mem_of_getElem? this)
  simpa using this
 rintro e w1 ⟨rfl,rfl⟩;rw[show(Lib.fields (ByteArray.mk wordsText.toArray).data.toList)=wordsRaw from Rf];go_wp2_with fail;refine(slices_Sort_string w.heap.size 0 wordsRaw.length wordsRaw _ (Ml w) (by simp) (by decide+kernel)).mono ?_;rintro e w2 ⟨rfl,n,os,rfl⟩;rw[Rg];go_wp2;go_ret;have hA:=gZ w (.cells (wordsRaw.map λl=>Value.string ⟨l.toArray⟩).toArray 9 (0,0)) none;have hS:=UZ (os:=os) (n:=n) (w:=w.alloc (.cells (wordsRaw.map λl=>Value.string ⟨l.toArray⟩).toArray 9 (0,0))) (g:=w.heap.size) wordsL.toArray;refine⟨_,rfl,⟨_,_,rfl,nR _,by decide,λj hj=>⟨w.heap.size,0,rfl,nR _,?_⟩⟩,?_⟩
 ·have hc:=cell?_putRow encStr _ w.heap.size 0 wordsRaw.toArray wordsL.toArray (QQ w n) (by decide) j (by simpa using hj);have hlt:=bY _ _ hc;have hb:∀(W:World) os (k:Nat) a,k<W.heap.size->(grow W os).cell? ⟨k,a,none⟩=W.cell? ⟨k,a,none⟩:=λW os k a h=>by
   unfold World.cell?;rw[heap_grow_old _ _ h]
  rw[hb _ _ _ _ hlt,hc];simp[encStr,List.getD_eq_getElem?_getD,hj]
 ·refine⟨hS.os.trans hA.os,hS.tape.trans hA.tape,hS.output.trans hA.output,nT hA.size hS.size,λk hk _=>?_⟩;rw[hS.block k (by simp;omega) (by simp;omega)];exact hA.block k hk (by simp)
end Go.Proofs.YtbjfaimkiclhgaaGreatDoor
