/-
  The reference's reader of statements: loop. The reference's reader of statements: declare. The reference's reader of statements: do.
-/
import Derived.Test.YtmcajbhljbbglaaGreatDoorSpF
import Derived.Test.YtmcajbhljbbglaaGreatDoorSp35
set_option linter.all false
set_option maxRecDepth 100000
set_option maxHeartbeats 8000000
namespace Go.Proofs.YtmcajbhljbbglaaGreatDoor
open Tryz
open Go.RowKit
structure KE(ok:Nat→Prop)(w:World)(n:Nat)(x:Ex)(pa:Option Addr)(pc:Nat)(la:Option Addr)(lc:Nat):Prop where
 blk:Blk w n (hdC x.h (.slice pa x.h.p.length pc) (.slice la x.kids.len lc)) 29
 rp:Cells w (.slice pa x.h.p.length pc) 1 x.h.p.length (x.h.p.map str) ok
 rl:RepL ok w (.slice la x.kids.len lc) x.kids
section
variable {ok:Nat→Prop}{w w1:World}{n:Nat}{x y z:Ex}{pa la:Option Addr}{pc lc:Nat}{r:Option Nat}
theorem KE.gb(k:KE ok w n x pa pc la lc)(g:w.grownBy w1 r)(hn:some n≠r)(hk:∀q,ok q→q<w.heap.size→some q≠r):KE ok w1 n x pa pc la lc:=⟨k.blk.gb g hn,k.rp.gb g hk,k.rl.gb g hk⟩
theorem KE.gbN(k:KE ok w n x pa pc la lc)(g:w.grownBy w1 none):KE ok w1 n x pa pc la lc:=k.gb g Ae Ae
theorem KE.new{ok':Nat→Prop}(rp:Cells w (.slice pa x.h.p.length pc) 1 x.h.p.length (x.h.p.map str) ok')(rl:RepL ok' w (.slice la x.kids.len lc) x.kids)(hk:∀q,ok' q→q<w.heap.size→ok q):
 KE ok (w.alloc (.cells (hdC x.h (.slice pa x.h.p.length pc) (.slice la x.kids.len lc)).toArray 29 (0,0))) w.heap.size x pa pc la lc:=
 have g:=World.grownBy_alloc w (.cells (hdC x.h (.slice pa x.h.p.length pc) (.slice la x.kids.len lc)).toArray 29 (0,0)) none
 ⟨Blk.new _ _ _,(rp.mono hk).gb g Ae,(rl.mono hk).gb g Ae⟩
theorem KE.put{ok':Nat→Prop}(k:KE ok w n x pa pc la lc){pb lb:Option Addr}{pd ld:Nat}(rp:Cells w (.slice pb y.h.p.length pd) 1 y.h.p.length (y.h.p.map str) ok')(rl:RepL ok' w (.slice lb y.kids.len ld) y.kids)(hk:∀q,ok' q→q<w.heap.size→q≠n):
 KE ok' (set7 w n (.int .i64 y.h.op) (str y.h.s) (.int .i64 y.h.vk) (.int .i64 y.h.vn) (str y.h.vs) (.slice pb y.h.p.length pd) (.slice lb y.kids.len ld)) n y pb pd lb ld:=by
 have g7:=AD w n (.int .i64 y.h.op) (str y.h.s) (.int .i64 y.h.vk) (.int .i64 y.h.vn) (str y.h.vs) (.slice pb y.h.p.length pd) (.slice lb y.kids.len ld);exact⟨(k.blk.set7 _ _ _ _ _ _ _).of_eq rfl rfl,rp.gb g7 (fun q hq hl e=>by cases e;exact hk _ hq hl rfl),rl.gb g7 (fun q hq hl e=>by cases e;exact hk _ hq hl rfl)⟩
theorem KE.mono{ok':Nat→Prop}(k:KE ok w n x pa pc la lc)(hk:∀q,ok q→q<w.heap.size→ok' q):KE ok' w n x pa pc la lc:=⟨k.blk,k.rp.mono hk,k.rl.mono hk⟩
theorem RepF.three{pd ld pf lf:Nat}{pa2 la2 pa3 la3:Option Addr}{n1 n2 n3:Nat}(k1:KE ok w n1 x pa pc la lc)(k2:KE ok w n2 y pa2 pd la2 ld)(k3:KE ok w n3 z pa3 pf la3 lf):
 RepF ok w (((Fo.one x).snoc y).snoc z) (hdC x.h (.slice pa x.h.p.length pc) (.slice la x.kids.len lc)++(hdC y.h (.slice pa2 y.h.p.length pd) (.slice la2 y.kids.len ld)++hdC z.h (.slice pa3 z.h.p.length pf) (.slice la3 z.kids.len lf))):=
 (VE.rep k1.rp k1.rl).app ((VE.rep k2.rp k2.rl).app (VE.rep k3.rp k3.rl))
end
section
variable {w:World}{b:Nat}{tv:Value}{l:List Tok}{st:RS}
abbrev upto(w:World)(L m:Nat):Nat→Prop:=fun q=>w.heap.size<q∧q≠L∧q<m
theorem wX{block:Rd l Bl}(hn:Al l){day:Bs→Int}{n:Nat}(hB:CRB b tv l block.g)(hE:CR 28 b tv l (AN l day n))(hok:∀i,At (Af l i))(h:Rr w b tv l st){r:StB×RS}(ho:(Fb hn wordsL day n block).g st=some r):
 Calls Tryz.prog 189 #[.pointer (some ⟨b,0,none⟩)] w (AM b tv l w (VSt w) r):=by
 have hb:=h.lt;unfold Fb at ho;rw[Rd.name_g,Rd.want_g]at ho;obtain⟨x,st3,hx,ho⟩:=Rd.bind_g ho;rw[Rd.must_gb]at ho;obtain⟨y,st5,hy,ho⟩:=Rd.bind_g ho;obtain⟨z,st6,hz6,ho⟩:=Rd.bind_g ho;rw[Rd.fin_g]at ho;obtain⟨c,st8,hc,ho⟩:=Rd.bind_g ho;rw[Rd.must_gb,Rd.fin_g,Rd.pure_g]at ho;cases ho;rw[FF]at hz6;have H:=Z (Ac hB (Ac hE hok));have HX:=Z (Ac hx (Ac hy hc));have FV{P}(h:P:=by
 have h0:=h.alloc (.cells (stC 0 (.slice none 0 0)).toArray 50 (0,0));clear hB hE hok hx hy hc;go_enter func189,ntmps189;go_wp2_with fail;refine(BY h0).mono ?_;rintro e w1 ⟨g1,v,rfl,rfl,h1⟩;have hs1:=g1.size;simp at hs1;generalize hnm:(Ax l st).1=s at*;have HK:=Z (KS.start (o:=5) (s:=s) (hz.gb g1 Ag) (Ah gz g1) hb Ab);have hR:=h1.alloc (.cells #[.int .i64 5,str s,str [],.slice none 0 0,.slice none 0 0,.slice none 0 0,.int .i64 0,.slice none 0 0,.slice none 0 0,.slice none 0 0] 50 (0,0));clear h0 hz gz g1 h1;generalize hL:w1.heap.size=L at*;go_wp2_with fail;refine(E8 hR [61]).mono ?_;rintro e w2 ⟨g2,v,rfl,rfl,h2⟩;replace HK:=Z (HK.out.gb g2);clear g2;have hkl2:=HK.out.lt;clear hR;go_wp2_with fail;have dX{P}(h:P:=by
 have HXk:=Z (KE.new (ok:=upto w L w3.heap.size) rp rl (fun q hq hl=>by have h1:w2.heap.size≤q:=hq;have:=HK.out.wL;exact⟨by omega,by omega,hl⟩));replace HK:=Z ((HK.out.gb g3).alloc (.cells (hdC x.h (.slice pa x.h.p.length pc) (.slice la x.kids.len lc)).toArray 29 (0,0)));have hR:=h3.alloc (.cells (hdC x.h (.slice pa x.h.p.length pc) (.slice la x.kids.len lc)).toArray 29 (0,0));clear rp rl g3 h3 h2;generalize hbx:w3.heap.size=bx at*;have hbb:b<bx∧L<bx∧b<L:=by have:=HK.out.wL;have:=HK.out.bw;omega
 go_wp2_with fail;refine(C5 hR H.out.2.2 wTO Ad).mono ?_;rintro e w4 ⟨g4,v,rfl,rfl,h4⟩;replace HK:=Z (HK.out.gb g4);replace HXk:=Z (HXk.out.gb g4 Ag (fun q hq _ e=>by cases e;have:=hq.1;omega));have hs4:=g4.size;have hkl4:=HXk.out.blk.lt;clear g4 hR;go_wp2_with fail;refine(H.out.2.1 _ _ _ h4 HX.out.2.1).mono ?_;rintro e w5 ⟨g5,v,rfl,⟨pb,pd,lb,ld,rfl,rp,rl⟩,h5⟩;simp only at rp rl h5 ⊢;have hs5:=g5.size;have HYk:=Z (KE.new (ok:=upto w L w5.heap.size) rp rl (fun q hq hl=>by have h1:w4.heap.size≤q:=hq;have:=HK.out.wL;exact⟨by omega,by omega,hl⟩));replace HK:=Z ((HK.out.gb g5).alloc (.cells (hdC y.h (.slice pb y.h.p.length pd) (.slice lb y.kids.len ld)).toArray 29 (0,0)));replace HXk:=Z ((HXk.out.gb g5 Ag (fun q hq _ e=>by cases e;have:=hq.1;omega)).gbN (World.grownBy_alloc _ (.cells (hdC y.h (.slice pb y.h.p.length pd) (.slice lb y.kids.len ld)).toArray 29 (0,0)) _));have hR:=h5.alloc (.cells (hdC y.h (.slice pb y.h.p.length pd) (.slice lb y.kids.len ld)).toArray 29 (0,0));clear rp rl g5 h5 h4;generalize hby:w5.heap.size=by5 at*;have hbb2:b<by5∧bx<by5:=Ab;go_wp2_with fail;refine(WO 1 _).mono ?_;rintro e w6 ⟨rfl,g6⟩;have hs6:=g6.size;simp at hs6;have hZk0:=KE.new (x:=A1 2 1 []) (ok:=but w L) (Cells.nil w6 1 (fun _=>False)) (RepL.nil w6 (fun _=>False)) (fun q hq _=>hq.elim);replace HK:=Z ((HK.out.gbN g6).alloc (.cells (hdC (A1 2 1 []).h (.slice none 0 0) (.slice none 0 0)).toArray 29 (0,0)))
 replace HXk:=Z ((HXk.out.gbN g6).gbN (World.grownBy_alloc _ (.cells (hdC (A1 2 1 []).h (.slice none 0 0) (.slice none 0 0)).toArray 29 (0,0)) _));replace HYk:=Z ((HYk.out.gbN g6).gbN (World.grownBy_alloc _ (.cells (hdC (A1 2 1 []).h (.slice none 0 0) (.slice none 0 0)).toArray 29 (0,0)) _));have HZk:=Z hZk0;have hR6:=(hR.gbN g6).alloc (.cells (hdC (A1 2 1 []).h (.slice none 0 0) (.slice none 0 0)).toArray 29 (0,0));clear g6 hR hZk0;generalize hbz:w6.heap.size=bz at*;have hbb3:b<bz∧by5<bz:=Ab;have HW:=Z (Ef hR6 H.out.2.2 J8 Ad);go_wp2_with fail;refine HW.out.mono ?_;rintro e w7 ⟨g7,v,rfl,rfl,h7⟩;replace HK:=Z (HK.out.gb g7);replace HXk:=Z (HXk.out.gb g7 Ag (fun q hq _ e=>by cases e;have:=hq.1;omega));replace HYk:=Z (HYk.out.gb g7 Ag (fun q hq _ e=>by cases e;have:=hq.1;omega));replace HZk:=Z (HZk.out.gb g7 Ag (fun q hq _ e=>by cases e;have:=hq.1;omega));clear g7 HW hR6;generalize hwr:B4 l wordsL J8 st5=pr at*;obtain⟨ok,st7⟩:=pr;simp only at hz6 h7;cases ok with
 | false=>
   rw[if_neg Ae,Rd.pure_g]at hz6;cases hz6;have hR:=h7;clear h7;have eM{P}(h:P:=by have hR1:=(hR.gb (As (Aj w7 (some L)) 4 (.slice (some ⟨(w7).heap.size,0,none⟩) 3 3)) A6).alloc (.cells (hdC x.h (.slice pa x.h.p.length pc) (.slice la x.kids.len lc)++(hdC y.h (.slice pb y.h.p.length pd) (.slice lb y.kids.len ld)++hdC ((A1 2 1 [])).h (.slice none ((A1 2 1 [])).h.p.length 0) (.slice none ((A1 2 1 [])).kids.len 0))).toArray 29 (0,0));have eN{P}(h:P:=by exact Oh):=Aa h;exact Yp):=Aa h;exact Ym
 | true=>
   rw[if_pos rfl]at hz6;have HZ:=Z hz6;have hklz:=HZk.out.blk.lt;clear hz6;go_wp2_with fail;refine(H.out.2.1 _ _ _ h7 HZ.out).mono ?_;rintro e w8 ⟨g8,v,rfl,⟨pe,pf,le,lf,rfl,rp,rl⟩,h8⟩;simp only at rp rl h8 ⊢;have hs8:=g8.size;have hwL:=HK.out.wL;have hZ8:=HZk.out.gb g8 Ag (fun q hq _ e=>by cases e;have:=hq.1;omega);have hX8:=HXk.out.gb g8 Ag (fun q hq _ e=>by cases e;have:=hq.1;omega);have hY8:=HYk.out.gb g8 Ag (fun q hq _ e=>by cases e;have:=hq.1;omega);have hK8:=HK.out.gb g8;have hb8:=h8.lt;have g9:=AD w8 bz (.int .i64 z.h.op) (str z.h.s) (.int .i64 z.h.vk) (.int .i64 z.h.vn) (str z.h.vs) (.slice pe z.h.p.length pf) (.slice le z.kids.len lf);have hK9:KS b w L _ (sd0 5 s) .nil (.slice none 0 0) (.slice none 0 0) (.slice none 0 0) (.slice none 0 0) (.slice none 0 0) (.slice none 0 0):=KS.bare (hK8.blk.gb g9 Ag) (A5 hK8.gr g9 (.inr Ab)) hK8.bw hK8.wL (hK8.zero.gb g9 Ag);have hX9:=hX8.gb g9 Ag (fun q hq _ e=>by cases e;have:=hq.2.2;omega);have hY9:=hY8.gb g9 Ag (fun q hq _ e=>by cases e;have:=hq.2.2;omega);have hZ9:=(hZ8.put (y:=z) rp rl (fun q hq _=>by have h1:w7.heap.size≤q:=hq;omega)).mono (ok':=but w L) (fun q hq _=>by have h1:w7.heap.size≤q:=hq;exact⟨by omega,by omega⟩);have hR9:=h8.gb g9 A6;have hcz8:=hZ8.blk;obtain⟨dz_0,dz_1,dz_2,dz_3,dz_4,dz_5,dz_6,dz_f⟩:=(hcz8).c7;have hlz8:=hcz8.lt;simp only[set7]at hK9 hX9 hY9 hZ9 hR9;clear g9 hK8 hX8 hY8 hZ8 rp rl g8 HK HXk HYk HZk h7 hcz8 h8;have HK:=Z hK9;have HXk:=Z hX9;have HYk:=Z hY9;have HZk:=Z hZ9;have HR9:=Z hR9
   clear hK9 hX9 hY9 hZ9 hR9;go_upto_region 9 with fail;clear dz_0 dz_1 dz_2 dz_3 dz_4 dz_5 dz_6 dz_f hlz8;generalize(((((((w8.setCell {block:=bz,off:=0} (.int .i64 z.h.op)).setCell {block:=bz,off:=1} (.string {data:=List.toArray z.h.s})).setCell {block:=bz,off:=2} (.int .i64 z.h.vk)).setCell {block:=bz,off:=3} (.int .i64 z.h.vn)).setCell {block:=bz,off:=4} (.string {data:=List.toArray z.h.vs})).setCell {block:=bz,off:=5} (.slice pe z.h.p.length pf)).setCell {block:=bz,off:=6} (.slice le z.kids.len lf))=W9 at*;have hR:=HR9.out;clear HR9;have eM{P}(h:P:=by have hR1:=(hR.gb (As (Aj W9 (some L)) 4 (.slice (some ⟨(W9).heap.size,0,none⟩) 3 3)) A6).alloc (.cells (hdC x.h (.slice pa x.h.p.length pc) (.slice la x.kids.len lc)++(hdC y.h (.slice pb y.h.p.length pd) (.slice lb y.kids.len ld)++hdC (z).h (.slice pe (z).h.p.length pf) (.slice le (z).kids.len lf))).toArray 29 (0,0));have eN{P}(h:P:=by exact Oh):=Aa h;exact Yp):=Aa h;exact Ym):=Aa h
 exact TU):=Aa h;exact FU
end
section
variable {w:World}{b:Nat}{tv:Value}{l:List Tok}{st:RS}
def zT(hn:Al l)(day:Bs→Int)(n:Nat)(b:Nat)(tv:Value)(w:World)(L:Nat)(wd:Bs)(q:(List Bs×Fo)×RS)(g:Nat)(v:Value)(wr:World):Prop:=
 ∃(go:Bool)(a:List Bs×Fo)(st:RS),v= .bool go∧(∃pv xv bv,KA b w L wr 2 wd [] a.1 a.2 .nil pv xv bv)∧Rr wr b tv l st∧
  ((go=true∧∃m,g=m+1∧a.1.length+m≤n∧a.2.len+m≤n∧((Ez hn day n a).bind (Rd.moreS [44] (Ez hn day n) m)).g st=some q)∨(go=false∧g=0∧(a,st)=q))
theorem Ma(hn:Al l){day:Bs→Int}{n:Nat}(hnn:n≤100000)(hE:CR 28 b tv l (AN l day n))(h:Rr w b tv l st)(wd:Bs){r:StB×RS}(ho:(CH hn day n wd).g st=some r):
 Calls Tryz.prog 186 #[.pointer (some ⟨b,0,none⟩),str wd] w (AM b tv l w (VSt w) r):=by
 have hb:=h.lt;unfold CH at ho;obtain⟨a0,st0,h0,ho⟩:=Rd.bind_g ho;obtain⟨a1,st1,h1,ho⟩:=Rd.bind_g ho;rw[Rd.fin_g,Rd.pure_g]at ho;cases ho;have hp:((Ez hn day n ([],.nil)).bind (Rd.moreS [44] (Ez hn day n) n)).g st=some (a1,st1):=by
  show((Ez hn day n ([],.nil)).g st).bind _=_;rw[h0];exact h1
 have HP:=Z hp;have H:=Z (Ac True.intro (Ac hE True.intro));have FV{P}(h:P:=by
 have hKK:=KA.start hz gz hb Ae 2 wd;have hR:=(h.alloc (.cells (stC 0 (.slice none 0 0)).toArray 50 (0,0))).alloc (.cells #[.int .i64 2,str wd,str [],.slice none 0 0,.slice none 0 0,.slice none 0 0,.int .i64 0,.slice none 0 0,.slice none 0 0,.slice none 0 0] 50 (0,0));have NW{P}(h:P:=by
 clear hE hp h0 h1 hz gz hKK;go_enter func186,ntmps186;go_wp2_with fail;go_loopg [6] (n+1) (fun g v6 wr=>zT hn day n b tv w (w.heap.size+1) wd (a1,st1) g v6 wr)
 case atStart=>exact⟨true,([],.nil),_,rfl,⟨_,_,_,HK.out⟩,hR,.inl ⟨rfl,n,rfl,by simp,by simp[Fo.len],HP.out⟩⟩
 case round=>
  obtain⟨go,a,st1,rfl,⟨pv,xv,bv,hK⟩,hR1,hq⟩:=hrel;have HK:=Z hK;have hR:=hR1;clear hK hR1 HP;rcases hq with⟨rfl,m,rfl,hm1,hm2,hq⟩| ⟨rfl,rfl,hq⟩
  ·obtain⟨a',st4,hpa,hq⟩:=Rd.bind_g hq;unfold Ez at hpa;rw[Rd.name_g]at hpa;obtain⟨x,st3,hx,hpa⟩:=Rd.bind_g hpa;rw[Rd.pure_g]at hpa;cases hpa;rw[Rd.ifs_g]at hx;have HX:=Z (Ac hx hq);clear hx hq;have hkl:=HK.out.lt;have hx3:=HK.out.blk.cell' 3 rfl;go_wp2_with fail;have Ko{P}(h:P:=by
   have hroom:=hm1;have DD{P}(h:P:=by
   go_region_law(first
    | (refine step_append_lies _ Ao _ _ 26 Ao (w.heap.size+1) 9 i0 _ 1 16 underlying26 HI.out.1 HI.out.2.1 HI.out.2.2.1 HI.out.2.2.2 rfl Ad _ _ _ Ao HB.out.1.p ⟨w6.heap.size,0,none⟩ 1 1 [str (Ax l st1).1] Ao rfl (D0 _ _ _) Dg Ad AI Ab Ag _ rfl ?_;intro j cap w7 hown hgrow hat hlt;(have HK8:=Z (Ac (HB.out.1.addP' hown hgrow hat) (Rr.app HB.out.2 hgrow (fun q hq=>(HB.out.1.belowP q hq).1) hbL 3 (.slice (some ⟨j,0,none⟩) (a.1.length+1) cap))));(have hb7:=HB.out.1.blk.gb hgrow HB.out.1.neP);(have f7:=hb7.frozen 3);(have d7:=hb7.cell' 3 rfl);(have l7:=hb7.lt);clear hown hgrow hat hb7 HB)
    | (go_simp;go_at_call 73;refine(BY (hR.drewN 1)).mono ?_;rintro e w6 ⟨g6,v,rfl,rfl,h6⟩;(have k6:=HK.out.gb (Ah (An (Aj _ _)) g6));(have l6:=k6.lt);(have d6:=k6.blk.cell' 3 rfl);(have s6:=g6.size);(have HB:=Z (Ac (k6.alloc (.cells #[str (Ax l st1).1] 9 (0,0))) (h6.alloc (.cells #[str (Ax l st1).1] 9 (0,0)))));clear k6 h6 g6))
   all_goals
    generalize hWW:World.setCell _ _ _=W8 at*;have HK:=Z HK8.out.1;have hR:=HK8.out.2;clear HK8 hx3 d6 d7 f7 l6 l7 s6;have iA{P}(h:P:=by
    have hR9:=hR.gbN gZ;have HK0:=Z (Ac HK.out gZ);replace HK:=Z (HK.out.gbN gZ);have hb8:=hR.lt;have HTk:=Z (B9 hR9 [58,61]);clear gZ hR hR9;cases hs:A2 l [58,61] (Ax l st1).2 with
    | false=>
      have hx:=HX.out.1;rw[hs,if_neg Ae,Rd.pure_g]at hx;cases hx;rw[hs]at HTk;go_wp2_with fail;refine HTk.out.mono ?_;rintro e w9 ⟨g9,v,rfl,rfl,h9⟩;replace HK:=Z (HK.out.gb g9);have HXk:=Z (HZk.out.gb g9 Ag (fun q hq _ e=>by cases e;have:W8.heap.size≤b:=hq;omega));have hR:=h9;clear g9 h9 HZk HTk hs;have Kh{P}(h:P:=by
      have gV{P}(h:P:=by
      obtain⟨cs6,ho6,hr6⟩:=k7.x;have HB:=Z (Ac k7 (Ac ho6 (Ac hr6 (Ac (HXk.out.rp.gb gA Ae) (Ac (HXk.out.rl.gb gA Ae) (hR.alloc (.cells (hdC (Bi).h (.slice none (Bi).h.p.length 0) (.slice none (Bi).kids.len 0)).toArray 29 (0,0))))))));clear k7 ho6 hr6 gA hcx;go_wp2_with (at_builtin;refine wpList_append_lies _ rfl _ _ 27 rfl (w.heap.size+1) 29 i0 _ 7 104 underlying27 HI.out.1 HI.out.2.1 HI.out.2.2.1 HI.out.2.2.2 rfl Ad _ _ cs6 rfl HB.out.2.1 ⟨(w9).heap.size,0,none⟩ 1 1 (hdC (Bi).h (.slice none (Bi).h.p.length 0) (.slice none (Bi).kids.len 0)) rfl rfl (Bu _ _ _) FS Ad AI Ab Ag _ rfl ?_;intro j cap w7 hown hgrow hat hlt;(have HK8:=Z (Ac (HB.out.1.addX' HB.out.2.1 HB.out.2.2.1 HB.out.2.2.2.1 HB.out.2.2.2.2.1 HF.out hown hgrow hat) (Rr.app HB.out.2.2.2.2.2 hgrow (fun q hq=>(HB.out.1.belowX q hq).1) hbL 4 (.slice (some ⟨j,0,none⟩) (a.2.len+1) cap))));(have hb7:=HB.out.1.blk.gb hgrow HB.out.1.neX);(have f7:=hb7.frozen 4);(have d7:=hb7.cell' 4 rfl);(have l7:=hb7.lt);clear hown hgrow hat hb7 HB);have iW{P}(h:P:=by
      rcases Rd.moreS_g HX.out.2 with⟨hw,m',rfl,hqq⟩| ⟨hw,hqq⟩
      ·have NP{P}(h:P:=by
       go_roundg (m'+1)
       case measure=>omega
       case rel=>exact⟨true,(a.1++[(Ax l st1).1],a.2.snoc Bi),_,rfl,⟨_,_,_,HK.out⟩,h12,.inl ⟨rfl,m',rfl,by simp;omega,by simp[Fo.len_snoc];omega,HQ.out⟩⟩):=Aa h;exact Nm
      ·have NP{P}(h:P:=by
       go_roundg 0
       case measure=>omega
       case rel=>exact⟨false,(a.1++[(Ax l st1).1],a.2.snoc Bi),_,rfl,⟨_,_,_,HK.out⟩,h12,.inr ⟨rfl,rfl,HQ.out.symm⟩⟩):=Aa h;exact Nm):=Aa h
      exact aG):=Aa h;exact Zw):=Aa h;exact JT
    | true=>
      have hx:=HX.out.1;rw[hs,if_pos rfl]at hx;have HE:=Z hx;rw[hs]at HTk;go_wp2_with fail;refine HTk.out.mono ?_;rintro e w9 ⟨g9,v,rfl,rfl,h9⟩;have hK9:=HK.out.gb g9;have hkl9:=hK9.lt;have hwL:=HK.out.wL;replace HZk:=Z (HZk.out.gb g9 Ag (fun q hq _ e=>by cases e;have:W8.heap.size≤b:=hq;omega));have hl9:=HZk.out.blk.lt;have G9:=Ah (AY HK0.out.2) g9;clear g9 HTk hs hx hK9 HK;go_wp2_with fail;refine(H.out.2.1 _ _ _ h9 HE.out).mono ?_;rintro e w10 ⟨g10,v,rfl,⟨pe,pf,le,lf,rfl,rp,rl⟩,h10⟩;simp only at rp rl h10 ⊢;have fX{P}(h:P:=by
      have hK11:=HK0.out.1.gb (A5 (Ah G9 g10) g11 (.inr (Nat.le_refl _)));have dB{P}(h:P:=by
      have hR11:=h10.gb g11 A6;simp only[set7]at hK11 hZ11 hR11;have HK:=Z hK11;have HXk:=Z hZ11;have HR11:=Z hR11;clear hK11 hZ11 hR11 g11 hcz hZ10 rp rl g10 h10 G9 HZk HK0 h9;go_upto_region 9 with fail;have fA{P}(h:P:=by
      clear dz_0 dz_1 dz_2 dz_3 dz_4 dz_5 dz_6 dz_f hlz;have hR:=HR11.out;clear HR11;have Kh{P}(h:P:=by
      have iB{P}(h:P:=by
      obtain⟨cs6,ho6,hr6⟩:=k7.x;have HB:=Z (Ac k7 (Ac ho6 (Ac hr6 (Ac (HXk.out.rp.gb gA Ae) (Ac (HXk.out.rl.gb gA Ae) (hR.alloc (.cells (hdC (x).h (.slice pe (x).h.p.length pf) (.slice le (x).kids.len lf)).toArray 29 (0,0))))))));clear k7 ho6 hr6 gA hcx;go_wp2_with (at_builtin;refine wpList_append_lies _ rfl _ _ 27 rfl (w.heap.size+1) 29 i0 _ 7 104 underlying27 HI.out.1 HI.out.2.1 HI.out.2.2.1 HI.out.2.2.2 rfl Ad _ _ cs6 rfl HB.out.2.1 ⟨(W9).heap.size,0,none⟩ 1 1 (hdC (x).h (.slice pe (x).h.p.length pf) (.slice le (x).kids.len lf)) rfl rfl (Bu _ _ _) FS Ad AI Ab Ag _ rfl ?_;intro j cap w7 hown hgrow hat hlt;(have HK8:=Z (Ac (HB.out.1.addX' HB.out.2.1 HB.out.2.2.1 HB.out.2.2.2.1 HB.out.2.2.2.2.1 HF.out hown hgrow hat) (Rr.app HB.out.2.2.2.2.2 hgrow (fun q hq=>(HB.out.1.belowX q hq).1) hbL 4 (.slice (some ⟨j,0,none⟩) (a.2.len+1) cap))));(have hb7:=HB.out.1.blk.gb hgrow HB.out.1.neX);(have f7:=hb7.frozen 4);(have d7:=hb7.cell' 4 rfl);(have l7:=hb7.lt);clear hown hgrow hat hb7 HB);have iW{P}(h:P:=by
      rcases Rd.moreS_g HX.out.2 with⟨hw,m',rfl,hqq⟩| ⟨hw,hqq⟩
      ·have NP{P}(h:P:=by
       go_roundg (m'+1)
       case measure=>omega
       case rel=>exact⟨true,(a.1++[(Ax l st1).1],a.2.snoc x),_,rfl,⟨_,_,_,HK.out⟩,h12,.inl ⟨rfl,m',rfl,by simp;omega,by simp[Fo.len_snoc];omega,HQ.out⟩⟩):=Aa h;exact Nm
      ·have NP{P}(h:P:=by
       go_roundg 0
       case measure=>omega
       case rel=>exact⟨false,(a.1++[(Ax l st1).1],a.2.snoc x),_,rfl,⟨_,_,_,HK.out⟩,h12,.inr ⟨rfl,rfl,HQ.out.symm⟩⟩):=Aa h;exact Nm):=Aa h
      exact aG):=Aa h;exact Z2):=Aa h;exact JT):=Aa h;exact Y5):=Aa h;exact Tt):=Aa h;exact Zg):=Aa h
    exact Z1):=Aa h
   exact D9):=Aa h;exact Kf
  cases hq;go_wp2_with fail;refine(BR hR).mono ?_;rintro e w6 ⟨g6,v,rfl,rfl,h6⟩;replace HK:=Z (HK.out.gb g6);clear g6;have RA{P}(h:P:=by exact ZG):=Aa h;exact Q7):=Aa h
 exact Nu):=Aa h;exact FU
end
section
variable {w:World}{b:Nat}{tv:Value}{l:List Tok}{st:RS}
theorem KS.startX{wr:World}(hz:Blk wr w.heap.size (stC 0 (.slice none 0 0)) 50)(gr:w.grownBy wr (some b))(hb:b<w.heap.size)(hw:w.heap.size<wr.heap.size)(o:Int)
 {x:Ex} {pa la:Option Addr} {pc lc:Nat} {okx:Nat→Prop} (rp:Cells wr (.slice pa x.h.p.length pc) 1 x.h.p.length (x.h.p.map str) okx) (rl:RepL okx wr (.slice la x.kids.len lc) x.kids) (hok:∀q,okx q→q<wr.heap.size→w.heap.size<q):
 KS b w (wr.heap.size+1) ((wr.alloc (.cells (hdC x.h (.slice pa x.h.p.length pc) (.slice la x.kids.len lc)).toArray 29 (0,0))).alloc (.cells #[.int .i64 o,str [],str [],.slice none 0 0,.slice (some ⟨wr.heap.size,0,none⟩) 1 1,.slice none 0 0,.int .i64 0,.slice none 0 0,.slice none 0 0,.slice none 0 0] 50 (0,0))) {sd0 o []with x:= .one x} .nil (.slice none 0 0) (.slice (some ⟨wr.heap.size,0,none⟩) 1 1) (.slice none 0 0) (.slice none 0 0) (.slice none 0 0) (.slice none 0 0):=by
 have g2:=World.grownBy_alloc (wr.alloc (.cells (hdC x.h (.slice pa x.h.p.length pc) (.slice la x.kids.len lc)).toArray 29 (0,0))) (.cells #[.int .i64 o,str [],str [],.slice none 0 0,.slice (some ⟨wr.heap.size,0,none⟩) 1 1,.slice none 0 0,.int .i64 0,.slice none 0 0,.slice none 0 0,.slice none 0 0] 50 (0,0)) none;have hk:∀q,okx q→q<wr.heap.size→but w (wr.heap.size+1) q:=fun q hq hl=>⟨hok q hq hl,by omega⟩;exact⟨(Blk.new _ _ _).of_eq Ae rfl,Cells.nil _ _ _,(RepL.one (n:=wr.heap.size) rfl ⟨by omega,by omega⟩ (rp.mono hk) (rl.mono hk)).gb g2 Ae,RepV.nil _ _ _,RepL.nil _ _,RepL.nil _ _,RepL.nil _ _,Ar (Ar gr _) _,hb,by omega,(hz.alloc _).alloc _⟩
theorem AbE{block:Rd l Bl}(hn:Al l){day:Bs→Int}{n:Nat}(hnn:n≤90000)(hB:CRB b tv l block.g)(hE:CR 28 b tv l (AN l day n))(hok:∀i,At (Af l i))(h:Rr w b tv l st){r:StB×RS}(ho:(doP hn wordsL day n block).g st=some r):
 Calls Tryz.prog 188 #[.pointer (some ⟨b,0,none⟩)] w (AM b tv l w (VSt w) r):=by
 have hb:=h.lt;unfold doP at ho;rw[FF]at ho;have FV{P}(h:P:=by
 have h0:=h.alloc (.cells (stC 0 (.slice none 0 0)).toArray 50 (0,0));have HW:=Z (Ef h0 hok CA Ad);have H:=Z (Ac hB (Ac hE hok));have HZ:=Z (Ac hz gz);clear hB hE hok hz gz h0;generalize hwr:B4 l wordsL CA st=pr at*;obtain⟨ok,st1⟩:=pr;clear hwr;simp only at ho;cases ok with
 | true=>
   rw[if_pos rfl,Rd.fin_g,Rd.must_gb]at ho;unfold DY at ho;obtain⟨a0,st0,h0,ho⟩:=Rd.bind_g ho;obtain⟨a1,st8,h1,ho⟩:=Rd.bind_g ho;have hp:((BS hn day n block (.nil,.nil)).bind (Rd.moreW wordsL CA (BS hn day n block) n)).g (DP l wordsL CA (Fi l st1))=some (a1,st8):=by
    show((BS hn day n block (.nil,.nil)).g (DP l wordsL CA (Fi l st1))).bind _=_;rw[h0];exact h1
   have HP:=Z hp;have HT:=Z ho;clear hp ho h0 h1;have dD{P}(h:P:=by
   go_wp2_with fail;refine(BR h1).mono ?_;rintro e w2 ⟨g2,v,rfl,rfl,h2⟩;have hs2:=g2.size;have hzl:=hz1.lt;have HK:=Z (KA.start (hz1.gb g2 Ag) (Ah G1 g2) hb Ab 3 []);have hR2:=h2.alloc (.cells #[.int .i64 3,str [],str [],.slice none 0 0,.slice none 0 0,.slice none 0 0,.int .i64 0,.slice none 0 0,.slice none 0 0,.slice none 0 0] 50 (0,0));clear hz1 G1 g2 h1 h2;go_wp2_with fail;refine(C5 hR2 H.out.2.2 CA Ad).mono ?_;rintro e w3 ⟨g3,v,rfl,rfl,hR⟩;replace HK:=Z (HK.out.gb g3);clear g3;clear hR2;go_wp2_with fail;go_loopg [4] (n+1) (fun g v4 wr=>WR hn day n block b tv w (w2.heap.size) CA 3 (a1,st8) g v4 wr)
   case atStart=>exact⟨true,(.nil,.nil),_,rfl,⟨_,_,_,HK.out⟩,hR,.inl ⟨rfl,n,rfl,by simp[Fo.len],by simp[Bl.len],HP.out⟩⟩
   case round=>
    obtain⟨more,a,st1,rfl,⟨pv,xv,bv,hK⟩,hR1,hq⟩:=hrel;have HK:=Z hK;have hR:=hR1;clear hK hR1 HP;rcases hq with⟨rfl,m,rfl,hm1,hm2,hq⟩| ⟨rfl,rfl,hq,hlen⟩
    ·have gO{P}(h:P:=by
     have EQ{P}(h:P:=by
     have hroom:=hm1;have DD{P}(h:P:=by
     go_region_law(first
      | (refine step_append_lies _ Ao _ _ 27 Ao (w.heap.size+1) 29 i0 _ 7 104 underlying27 HI.out.1 HI.out.2.1 HI.out.2.2.1 HI.out.2.2.2 rfl Ad _ _ cs6 Ao HB.out.2.1 ⟨w6.heap.size,0,none⟩ 1 1 (hdC (x).h (.slice pa6 (x).h.p.length pc6) (.slice la6 (x).kids.len lc6)) Ao rfl (Bu _ _ _) FS Ad AI Ab Ag _ rfl ?_;intro j cap w7 hown hgrow hat hlt;(have HK8:=Z (Ac (HB.out.1.addX' HB.out.2.1 HB.out.2.2.1 HB.out.2.2.2.1 HB.out.2.2.2.2.1 (fun q hq=>HK.out.fresh q hq) hown hgrow hat) (Rr.app HB.out.2.2.2.2.2 hgrow (fun q hq=>(HB.out.1.belowX q hq).1) hbL 4 (.slice (some ⟨j,0,none⟩) (a.1.len+1) cap))));(have hb7:=HB.out.1.blk.gb hgrow HB.out.1.neX);(have f7:=hb7.frozen 4);(have d7:=hb7.cell' 4 rfl);(have l7:=hb7.lt);clear hown hgrow hat hb7 HB)
      | (go_simp;go_at_call 28;refine(H.out.2.1 _ _ _ (hR.drewN 1) HX.out.1).mono ?_;rintro e w6 ⟨g6,v,rfl,⟨pa6,pc6,la6,lc6,rfl,q1,q2⟩,h6⟩;(have k6:=HK.out.gb (Ah (An (Aj _ _)) g6));(have l6:=k6.lt);(have d6:=k6.blk.cell' 4 rfl);(have s6:=g6.size);(have k7:=k6.alloc (.cells (hdC (x).h (.slice pa6 (x).h.p.length pc6) (.slice la6 (x).kids.len lc6)).toArray 29 (0,0)));(obtain⟨cs6,ho6,hr6⟩:=k7.x);(have gA:=World.grownBy_alloc w6 (.cells (hdC (x).h (.slice pa6 (x).h.p.length pc6) (.slice la6 (x).kids.len lc6)).toArray 29 (0,0)) none);(have HB:=Z (Ac k7 (Ac ho6 (Ac hr6 (Ac (q1.gb gA Ae) (Ac (q2.gb gA Ae) (h6.alloc (.cells (hdC (x).h (.slice pa6 (x).h.p.length pc6) (.slice la6 (x).kids.len lc6)).toArray 29 (0,0)))))))));clear k6 k7 ho6 hr6 q1 q2 h6 gA g6))
     all_goals
      have fZ{P}(h:P:=by
      have Kk{P}(h:P:=by
      have hroom:=hm2;have DD{P}(h:P:=by
      go_region_law(first
       | (refine step_append_lies _ Ao _ _ 46 Ao (w.heap.size+1) 43 i0 _ 1 24 underlying46 HI.out.1 HI.out.2.1 HI.out.2.2.1 HI.out.2.2.2 rfl Ad _ _ ds6 Ao HB.out.2.1 ⟨w6.heap.size,0,none⟩ 1 1 [.slice ca6 (c).len cc6] Ao rfl (D0 _ _ _) Dg Ad AI Ab Ag _ rfl ?_;intro j cap w7 hown hgrow hat hlt;(have HK8:=Z (Ac (HB.out.1.addB' HB.out.2.1 HB.out.2.2.1 HB.out.2.2.2.1 (fun q hq=>HK.out.fresh q hq) hown hgrow hat) (Rr.app HB.out.2.2.2.2 hgrow (fun q hq=>(HB.out.1.belowB q hq).1) hbL 5 (.slice (some ⟨j,0,none⟩) (a.2.len+1) cap))));(have hb7:=HB.out.1.blk.gb hgrow HB.out.1.neB);(have f7:=hb7.frozen 5);(have d7:=hb7.cell' 5 rfl);(have l7:=hb7.lt);clear hown hgrow hat hb7 HB)
       | (go_simp;go_at_call 70;refine(H.out.1 _ _ _ (hR.drewN 1) HX.out.2.1).mono ?_;rintro e w6 ⟨g6,v,rfl,hv6,h6⟩;(obtain⟨_,⟨ca6,cc6,rfl,_⟩,_⟩:=id hv6);(have k6:=HK.out.gb (Ah (An (Aj _ _)) g6));(have l6:=k6.lt);(have d6:=k6.blk.cell' 5 rfl);(have s6:=g6.size);(have k7:=k6.alloc (.cells #[.slice ca6 (c).len cc6] 43 (0,0)));(obtain⟨ds6,ho6,hr6⟩:=k7.bb);(have gA:=World.grownBy_alloc w6 (.cells #[.slice ca6 (c).len cc6] 43 (0,0)) none);(have HB:=Z (Ac k7 (Ac ho6 (Ac hr6 (Ac (RepV.gb hv6 gA Ae) (h6.alloc (.cells #[.slice ca6 (c).len cc6] 43 (0,0))))))));clear k6 k7 ho6 hr6 hv6 h6 gA g6))
      all_goals
       have LB{P}(h:P:=by
       have HW:=Z (Ef hR H.out.2.2 CA Ad);rcases Rd.moreW_g HX.out.2.2 with⟨hw,m',rfl,hq⟩| ⟨hw,hq⟩
       ·generalize hwr:B4 l wordsL CA _=pr at*;have NF{P}(h:P:=by exact aB):=Aa h;exact Nb
       ·generalize hwr:B4 l wordsL CA _=pr at*;have NF{P}(h:P:=by exact ZA):=Aa h;exact Nb):=Aa h
       exact Ls):=Aa h
      exact D9):=Aa h;exact JY):=Aa h;exact Zi):=Aa h
     exact D9):=Aa h;exact EN):=Aa h;exact Zq
    cases hq;have HW:=Z (Ef hR H.out.2.2 K7 Ad);obtain⟨bs,st7,hb7,ho⟩:=Rd.bind_g HT.out;rw[Rd.must_gb,Rd.fin_g,Rd.pure_g]at ho;cases ho;rw[FF]at hb7;generalize hwr:B4 l wordsL K7 _=pr at*;obtain⟨ok,st5⟩:=pr;simp only at hb7;have hkl:=HK.out.lt;cases ok with
    | false=>
      rw[if_neg Ae,Rd.pure_g]at hb7;cases hb7;have RD{P}(h:P:=by refine(C5 h4 H.out.2.2 KI Ad).mono ?_;exact L3):=Aa h;exact QC
    | true=>
      have eF{P}(h:P:=by
      go_region_law(first
       | (refine step_append_lies _ Ao _ _ 46 Ao (w.heap.size+1) 43 i0 _ 1 24 underlying46 HI.out.1 HI.out.2.1 HI.out.2.2.1 HI.out.2.2.2 rfl Ad _ _ ds6 Ao HB.out.2.1 ⟨w6.heap.size,0,none⟩ 1 1 [.slice ca6 (c).len cc6] Ao rfl (D0 _ _ _) Dg Ad AI Ab Ag _ rfl ?_;intro j cap w7 hown hgrow hat hlt;(have HK8:=Z (Ac (HB.out.1.addB' HB.out.2.1 HB.out.2.2.1 HB.out.2.2.2.1 (fun q hq=>HK.out.fresh q hq) hown hgrow hat) (Rr.app HB.out.2.2.2.2 hgrow (fun q hq=>(HB.out.1.belowB q hq).1) hbL 5 (.slice (some ⟨j,0,none⟩) (a1.2.len+1) cap))));(have hb7:=HB.out.1.blk.gb hgrow HB.out.1.neB);(have f7:=hb7.frozen 5);(have d7:=hb7.cell' 5 rfl);(have l7:=hb7.lt);clear hown hgrow hat hb7 HB)
       | (go_simp;go_at_call 70;refine(H.out.1 _ _ _ (hR.drewN 1) HX.out).mono ?_;rintro e w6 ⟨g6,v,rfl,hv6,h6⟩;(obtain⟨_,⟨ca6,cc6,rfl,_⟩,_⟩:=id hv6);(have k6:=HK.out.gb (Ah (An (Aj _ _)) g6));(have l6:=k6.lt);(have d6:=k6.blk.cell' 5 rfl);(have s6:=g6.size);(have k7:=k6.alloc (.cells #[.slice ca6 (c).len cc6] 43 (0,0)));(obtain⟨ds6,ho6,hr6⟩:=k7.bb);(have gA:=World.grownBy_alloc w6 (.cells #[.slice ca6 (c).len cc6] 43 (0,0)) none);(have HB:=Z (Ac k7 (Ac ho6 (Ac hr6 (Ac (RepV.gb hv6 gA Ae) (h6.alloc (.cells #[.slice ca6 (c).len cc6] 43 (0,0))))))));clear k6 k7 ho6 hr6 hv6 h6 gA g6))
      all_goals
       have LB{P}(h:P:=by go_wp2_with fail;refine(C5 hR H.out.2.2 KI Ad).mono ?_;exact L3):=Aa h;exact Ls):=Aa h
      exact Yd):=Aa h
   exact Tv
 | false=>
   rw[if_neg Ae,FF]at ho;have dD{P}(h:P:=by
   have HW:=Z (Ef h1 H.out.2.2 CC Ad);generalize hwr2:B4 l wordsL CC _=pr at*;obtain⟨ok2,st2⟩:=pr;clear hwr2;simp only at ho;cases ok2 with
   | true=>
     rw[if_pos rfl]at ho;obtain⟨a',st3,hpa,ho⟩:=Rd.bind_g ho;unfold BS at hpa;obtain⟨x,st4,hx,hpa⟩:=Rd.bind_g hpa;rw[Rd.fin_g]at hpa;obtain⟨c,st5,hc,hpa⟩:=Rd.bind_g hpa;rw[Rd.pure_g]at hpa;cases hpa;rw[Rd.must_gb,Rd.fin_g,Rd.pure_g]at ho;cases ho;have HX:=Z (Ac hx hc);clear hx hc;have cA{P}(h:P:=by
     have dX{P}(h:P:=by have HK:=Z (KS.startX (hz2.gb g3 Ag) (Ah G2 g3) hb Ab 4 rp rl (fun q hq _=>by have h1:w2.heap.size≤q:=hq;omega));have hR3:=(h3.alloc (.cells (hdC x.h (.slice pa x.h.p.length pc) (.slice la x.kids.len lc)).toArray 29 (0,0))).alloc (.cells #[.int .i64 4,str [],str [],.slice none 0 0,.slice (some ⟨w3.heap.size,0,none⟩) 1 1,.slice none 0 0,.int .i64 0,.slice none 0 0,.slice none 0 0,.slice none 0 0] 50 (0,0));clear hz2 G2 g3 h2 h3 rp rl;go_wp2_with fail;refine(BR hR3).mono ?_;rintro e w4 ⟨g4,v,rfl,rfl,h4⟩;replace HK:=Z (HK.out.gb g4);clear g4;have HC:=Z (H.out.1 _ _ _ h4 HX.out.2);clear hR3;have dY{P}(h:P:=by have hkl4:=HK.out.lt;have hwL:=HK.out.wL;replace HK:=Z (HK.out.gb g11);have hkl:=HK.out.lt;have hx5:=HK.out.blk.cell' 5 rfl;have hf5:=HK.out.blk.frozen 5;have hK2:=HK.out.layB (c:=c) (ca:=ca) (cc:=cc) (RepV.mono' (ok':=but w (w3.heap.size+1)) ⟨kcs,⟨ca,cc,rfl,k1⟩,k2⟩ (fun q hq _=>by have h1:w4.heap.size≤q:=hq;exact⟨by omega,by omega⟩));have hR2:=(h11.gb (As (Aj w11 (some (w3.heap.size+1))) 5 (.slice (some ⟨w11.heap.size,0,none⟩) 1 1)) A6).alloc (.cells #[.slice ca c.len cc] 43 (0,0));replace HK:=Z hK2;clear hK2 k1 k2 g11 h11 HC;go_wp2_with fail;refine(C5 hR2 H.out.2.2 M8 Ad).mono ?_;have cF{P}(h:P:=by exact Oh):=Aa h;exact SI):=Aa h;exact TX):=Aa h;exact TU):=Aa h;exact SB
   | false=>
     rw[if_neg Ae,Rd.name_g]at ho;have N7{P}(h:P:=by
     rw[FF]at hf;have cA{P}(h:P:=by
     refine(BY h2).mono ?_;rintro e w3 ⟨g3,v,rfl,rfl,h3⟩;have hs3:=g3.size;generalize hnm:(Ax l st2).1=s at*;have HK:=Z (KS.start (o:=9) (s:=s) (hz2.gb g3 Ag) (Ah G2 g3) hb Ab);have hR3:=h3.alloc (.cells #[.int .i64 9,str s,str [],.slice none 0 0,.slice none 0 0,.slice none 0 0,.int .i64 0,.slice none 0 0,.slice none 0 0,.slice none 0 0] 50 (0,0));clear hz2 G2 g3 h2 h3;have HW:=Z (Ef hR3 H.out.2.2 Gn Ad);generalize hwr3:B4 l wordsL Gn _=pr at*;obtain⟨ok3,st4⟩:=pr;simp only at hf;cases ok3 with
     | false=>
       rw[if_neg Ae,Rd.pure_g]at hf;cases hf;have RD{P}(h:P:=by refine(BR h4).mono ?_;exact Nz):=Aa h;exact QC
     | true=>
       rw[if_pos rfl]at hf;have HX:=Z (show FG l (AN l day n) (n+1) st4=some (f,st3)from hf);clear hf;have NY{P}(h:P:=by have hkl4:=HK.out.lt;have hwL:=HK.out.wL;clear g4 HW;go_wp2_with fail;refine(Mr H.out.2.1 h4 (n+1) Ab HX.out).mono ?_;have fK{P}(h:P:=by have hR6:=h5.gb (As (Aj w5 (some w3.heap.size)) 4 (.slice fa f.len fc)) (by intro q e;cases e;have:=HK.out.bw;omega);replace HK:=Z hK6;clear hK6 hF g5 h5 h4;exact aX):=Aa h;exact YQ):=Aa h;exact Nw):=Aa h
     exact SB):=Aa h;exact LS):=Aa h
   exact Tv):=Aa h
 exact FU
end
end Go.Proofs.YtmcajbhljbbglaaGreatDoor
