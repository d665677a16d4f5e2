/-
  The program's reader of statements: loop. The program's reader of statements: declare. The reference's reader of statements: command REPLACE. The reference's reader of statements: command at every wor
-/
import Derived.Test.YtmcajbhljbbglaaGreatDoorSpF
import Derived.Test.YtmcajbhljbbglaaGreatDoorSp39
import Derived.Test.YtmcajbhljbbglaaGreatDoorSp37
import Derived.Deep.CutRange
import Derived.Test.YtmcajbhljbbglaaGreatDoorSp38
import Derived.Test.YtmcajbhljbbglaaGreatDoorSp27
set_option linter.all false
set_option maxRecDepth 100000
set_option maxHeartbeats 8000000
namespace Go.Proofs.YtmcajbhljbbglaaGreatDoor
open Tryz
open Go.RowKit
section
variable {w:World}{b:Nat}{tv wo:Value}{l:List Tok}{i:Nat}
theorem uI{block:Rd l Bl}(hn:Al l){day:Bs→Int}{n:Nat}(hB:CQB b tv wo l block.f)(hE:CE 56 b tv wo l wordsL (Aw l day n))(hok:∀i,At (Af l i))(hl:AF l)(hg:Glob w)(hgb:0<b)(h:Par w b tv wo l wordsL i)(ho:(Fb hn wordsL day n block).f i ≠ .out):
 Calls Tryz.prog 219 #[.pointer (some ⟨b,0,none⟩)] w (Post b tv wo l wordsL w (VSt w) ((Fb hn wordsL day n block).f i)):=by
 have hb:=h.lt;have HO:=Z ho;generalize hR:(Fb hn wordsL day n block).f i=R at*;unfold Fb at hR;rw[Rd.name_f]at hR;have HQ:=Z hR;have HBk:=Z hB;have HE:=Z hE;have HTk:=Z hok;have HSh:=Z hl;have HGl:=Z (Ac hg hgb);have R4{P}(h:P:=by
 clear hB hE hok hl hg hgb h ho hR;go_enter func219,ntmps219;go_wp2_with fail;refine(C4 hp HSh.out).mono ?_;intro e w1 hq;obtain⟨g,⟨q,hr,rfl⟩| ⟨s,i1,v,hr,rfl,rfl,hp9⟩⟩:=hq.split
 ·exact D6
 have DX{P}(h:P:=by
 have Cj{P}(h:P:=by
 have hs1:=g.size;simp at hs1;have HK:=Z (KA.start (o:=5) HZ.out.1 HZ.out.2 hb Ab s);have hp3:=hp.alloc (.cells #[.int .i64 5,str s,str [],.slice none 0 0,.slice none 0 0,.slice none 0 0,.int .i64 0,.slice none 0 0,.slice none 0 0,.slice none 0 0] 50 (0,0));replace hp:=hp3;clear g hp3 HZ;replace HQ:=HQr HQ (by rw[Rd.want_f]);go_wp2_with fail;refine(Ec hp [61]).mono ?_;intro e w2 hq;obtain⟨g,⟨q,hr,rfl⟩| ⟨u,i2,v,hr,rfl,rfl,hp9⟩⟩:=hq.split
 ·exact BA
 have AV{P}(h:P:=by
 clear g;generalize hL:w1.heap.size=L at*;clear hL;replace HQ:=HQr HQ Fl;have hkl:=HK.out.lt;have hx4:=HK.out.blk.cell' 4 rfl;cases hr6:Aw l day n i2 with
 |out=>exact absurd Bz HO.out
 | bad q6=>
   exact YT
 |ok x i3=>
 replace HQ:=HQr HQ Fk;replace HQ:=HQr HQ Em;go_upto_region 3 with fail;go_cut []from 5 (fun wx=>(∃xv',KA b w L wx 5 s [] [] (.one x) .nil (.slice none 0 0) xv' (.slice none 0 0))∧Par wx b tv wo l wordsL i3)
 case first=>
  have EQ{P}(h:P:=by
  have hroom:=(show(Fo.nil).len≤5 by simp[Fo.len]);have DD{P}(h:P:=by
  go_region_law(first
   | (refine step_append_lies _ Ao _ _ 27 Ao (w.heap.size+1) 29 i0 _ 7 104 underlying27 HI.out.1 HI.out.2.1 HI.out.2.2.1 HI.out.2.2.2 rfl Ad _ _ cs6 Ao HB.out.2.1 ⟨w6.heap.size,0,none⟩ 1 1 (hdC (x).h (.slice pa6 (x).h.p.length pc6) (.slice la6 (x).kids.len lc6)) Ao rfl (Bu _ _ _) FS Ad AI Ab Ag _ rfl ?_;intro j cap w7 hown hgrow hat hlt;(have HK8:=Z (Ac (HB.out.1.addX' HB.out.2.1 HB.out.2.2.1 HB.out.2.2.2.1 HB.out.2.2.2.2.1 (fun q hq=>HK.out.fresh q hq) hown hgrow hat) (Par.app HB.out.2.2.2.2.2 hgrow (fun q hq=>(HB.out.1.belowX q hq).1) hbL 4 (.slice (some ⟨j,0,none⟩) ((Fo.nil).len+1) cap))));(have hb7:=HB.out.1.blk.gb hgrow HB.out.1.neX);(have f7:=hb7.frozen 4);(have d7:=hb7.cell' 4 rfl);(have l7:=hb7.lt);clear hown hgrow hat hb7 HB)
   | (go_simp;go_at_call 56;refine(HE.out _ _ (hp.drewN 1) Bp).mono ?_;rintro e w6 hq6;rw[hr6]at hq6;obtain⟨g6,v,rfl,⟨pa6,pc6,la6,lc6,rfl,q1,q2⟩,h6⟩:=hq6;(have k6:=HK.out.gb (Ah (An (Aj _ _)) g6));(have l6:=k6.lt);(have d6:=k6.blk.cell' 4 rfl);(have s6:=g6.size);(have k7:=k6.alloc (.cells (hdC (x).h (.slice pa6 (x).h.p.length pc6) (.slice la6 (x).kids.len lc6)).toArray 29 (0,0)));(obtain⟨cs6,ho6,hr7⟩:=k7.x);(have gA:=World.grownBy_alloc w6 (.cells (hdC (x).h (.slice pa6 (x).h.p.length pc6) (.slice la6 (x).kids.len lc6)).toArray 29 (0,0)) none);(have HB:=Z (Ac k7 (Ac ho6 (Ac hr7 (Ac (q1.gb gA Ae) (Ac (q2.gb gA Ae) (h6.alloc (.cells (hdC (x).h (.slice pa6 (x).h.p.length pc6) (.slice la6 (x).kids.len lc6)).toArray 29 (0,0)))))))));clear k6 k7 ho6 hr7 q1 q2 h6 gA g6))
  all_goals
   exact TN):=Aa h
  exact D9):=Aa h;exact EN
 case rest=>
 obtain⟨⟨xv',hK⟩,hp1⟩:=hcut;replace HK:=Z hK;replace hp:=hp1;clear hK hp1 hx4 hr6;have hkl:=HK.out.lt;go_wp2_with fail;refine(CJ hp HTk.out wTO Ad).mono ?_;have R1{P}(h:P:=by
 have AV{P}(h:P:=by
 clear g;replace HQ:=HQr HQ Fl;have hkl:=HK.out.lt;have hx4:=HK.out.blk.cell' 4 rfl;cases hr6:Aw l day n i4 with
 |out=>exact absurd Bz HO.out
 | bad q6=>
   exact YT
 |ok y i5=>
 replace HQ:=HQr HQ Fk;replace HQ:=HQr HQ BQ;replace HQ:=HQr HQ IX;go_upto_region 5 with fail;go_cut []from 5 (fun wx=>(∃xv',KA b w L wx 5 s [] [] ((Fo.one x).snoc y) .nil (.slice none 0 0) xv' (.slice none 0 0))∧Par wx b tv wo l wordsL i5)
 case first=>
  have EQ{P}(h:P:=by
  have hroom:=(show(Fo.one x).len≤5 by simp[Fo.one,Ex.fo,Fo.len]);have DD{P}(h:P:=by
  go_region_law(first
   | (refine step_append_lies _ Ao _ _ 27 Ao (w.heap.size+1) 29 i0 _ 7 104 underlying27 HI.out.1 HI.out.2.1 HI.out.2.2.1 HI.out.2.2.2 rfl Ad _ _ cs6 Ao HB.out.2.1 ⟨w6.heap.size,0,none⟩ 1 1 (hdC (y).h (.slice pa6 (y).h.p.length pc6) (.slice la6 (y).kids.len lc6)) Ao rfl (Bu _ _ _) FS Ad AI Ab Ag _ rfl ?_;intro j cap w7 hown hgrow hat hlt;(have HK8:=Z (Ac (HB.out.1.addX' HB.out.2.1 HB.out.2.2.1 HB.out.2.2.2.1 HB.out.2.2.2.2.1 (fun q hq=>HK.out.fresh q hq) hown hgrow hat) (Par.app HB.out.2.2.2.2.2 hgrow (fun q hq=>(HB.out.1.belowX q hq).1) hbL 4 (.slice (some ⟨j,0,none⟩) ((Fo.one x).len+1) cap))));(have hb7:=HB.out.1.blk.gb hgrow HB.out.1.neX);(have f7:=hb7.frozen 4);(have d7:=hb7.cell' 4 rfl);(have l7:=hb7.lt);clear hown hgrow hat hb7 HB)
   | (go_simp;go_at_call 56;refine(HE.out _ _ (hp.drewN 1) Bp).mono ?_;rintro e w6 hq6;rw[hr6]at hq6;obtain⟨g6,v,rfl,⟨pa6,pc6,la6,lc6,rfl,q1,q2⟩,h6⟩:=hq6;(have k6:=HK.out.gb (Ah (An (Aj _ _)) g6));(have l6:=k6.lt);(have d6:=k6.blk.cell' 4 rfl);(have s6:=g6.size);(have k7:=k6.alloc (.cells (hdC (y).h (.slice pa6 (y).h.p.length pc6) (.slice la6 (y).kids.len lc6)).toArray 29 (0,0)));(obtain⟨cs6,ho6,hr7⟩:=k7.x);(have gA:=World.grownBy_alloc w6 (.cells (hdC (y).h (.slice pa6 (y).h.p.length pc6) (.slice la6 (y).kids.len lc6)).toArray 29 (0,0)) none);(have HB:=Z (Ac k7 (Ac ho6 (Ac hr7 (Ac (q1.gb gA Ae) (Ac (q2.gb gA Ae) (h6.alloc (.cells (hdC (y).h (.slice pa6 (y).h.p.length pc6) (.slice la6 (y).kids.len lc6)).toArray 29 (0,0)))))))));clear k6 k7 ho6 hr7 q1 q2 h6 gA g6))
  all_goals
   exact TN):=Aa h
  exact D9):=Aa h;exact EN
 case rest=>
 obtain⟨⟨xv2,hK⟩,hp1⟩:=hcut;replace HK:=Z hK;replace hp:=hp1;clear hK hp1 hx4 hr6;have hkl:=HK.out.lt;have hm2:((Fo.one x).snoc y).len≤5:=XG;go_wp2_with fail;refine(Ab2 _).mono ?_;rintro e w6 ⟨rfl,g6⟩;have hKA6:=HK.out.gb (AY g6);have hp6:=hp.gbN g6;have hs6:=g6.size;have gZ:=World.grownBy_alloc w6 (.cells (hdC (A1 2 1 []).h (.slice none 0 0) (.slice none 0 0)).toArray 29 (0,0)) none;have HF:=Z (fun q hq=>hKA6.fresh q hq);have HZk:=Z (KE.new (x:=A1 2 1 []) (ok:=Ap w6.heap.size) (Cells.nil w6 1 (fun _=>False)) (RepL.nil w6 (fun _=>False)) (fun q hq _=>hq.elim));have HK0:=Z (Ac hKA6 gZ);have hbl6:=hp6.lt;replace HK:=Z (hKA6.gb (AY gZ));replace hp:=hp6.gbN gZ;clear g6 hKA6 hp6 gZ;have hkl:=HK.out.lt;cases hw:Av l wordsL i5==J8 with
 | false=>
   go_wp2_with fail;refine(Ev hp HTk.out J8 hw).mono ?_;rintro e w7 ⟨rfl,g⟩;replace HK:=Z (HK.out.gb (AY g));have HXk:=Z (HZk.out.gbN g);replace hp:=hp.gbN g;clear g HZk;replace HQ:=HQr HQ ML;clear hw;replace HQ:=HQr HQ Bj;replace HQ:=HQr HQ CU;have Kh{P}(h:P:=by
   have gA:=World.grownBy_alloc w7 (.cells (hdC ((A1 2 1 [])).h (.slice none ((A1 2 1 [])).h.p.length 0) (.slice none ((A1 2 1 [])).kids.len 0)).toArray 29 (0,0)) none;have k7:=HK.out.alloc (.cells (hdC ((A1 2 1 [])).h (.slice none ((A1 2 1 [])).h.p.length 0) (.slice none ((A1 2 1 [])).kids.len 0)).toArray 29 (0,0));obtain⟨cs6,ho6,hr7⟩:=k7.x;have HB:=Z (Ac k7 (Ac ho6 (Ac hr7 (Ac (HXk.out.rp.gb gA Ae) (Ac (HXk.out.rl.gb gA Ae) (hp.alloc (.cells (hdC ((A1 2 1 [])).h (.slice none ((A1 2 1 [])).h.p.length 0) (.slice none ((A1 2 1 [])).kids.len 0)).toArray 29 (0,0))))))));clear k7 ho6 hr7 gA hcx;go_wp2_with (at_builtin;refine wpList_append_lies _ rfl _ _ 27 rfl (w.heap.size+1) 29 i0 _ 7 104 underlying27 HI.out.1 HI.out.2.1 HI.out.2.2.1 HI.out.2.2.2 rfl Ad _ _ cs6 rfl HB.out.2.1 ⟨(w7).heap.size,0,none⟩ 1 1 (hdC ((A1 2 1 [])).h (.slice none ((A1 2 1 [])).h.p.length 0) (.slice none ((A1 2 1 [])).kids.len 0)) rfl rfl (Bu _ _ _) FS Ad AI Ab Ag _ rfl ?_;intro j cap w7 hown hgrow hat hlt;(have HK8:=Z (Ac (HB.out.1.addX' HB.out.2.1 HB.out.2.2.1 HB.out.2.2.2.1 HB.out.2.2.2.2.1 HF.out hown hgrow hat) (Par.app HB.out.2.2.2.2.2 hgrow (fun q hq=>(HB.out.1.belowX q hq).1) hbL 4 (.slice (some ⟨j,0,none⟩) (((Fo.one x).snoc y).len+1) cap))));(have hb7:=HB.out.1.blk.gb hgrow HB.out.1.neX);(have f7:=hb7.frozen 4);(have d7:=hb7.cell' 4 rfl);(have l7:=hb7.lt);clear hown hgrow hat hb7 HB);exact aT):=Aa h;exact JT
 | true=>
   go_wp2_with fail;refine(Ey hp HTk.out J8 Ad hw).mono ?_;rintro e w7 ⟨rfl,hp9,g⟩;replace HZk:=Z (HZk.out.gb g Ag (fun q hq _ e=>by cases e;have:w6.heap.size≤b:=hq;omega));have G9:=Ah (AY HK0.out.2) g;have hK7:=HK.out.gb g;have hkl7:=hK7.lt;have hbL:=hK7.bL;have hwL:=hK7.wL;replace hp:=hp9;replace HQ:=HQr HQ JL;have hl7:=HZk.out.blk.lt;clear g hp9 hw hK7 HK;have HG9:=Z G9;go_wp2_with fail;refine(HE.out _ _ hp (fun e=>HO.out (by rw[←HQ.out];show Res.bind (Aw l day n _) _=_;rw[e];rfl))).mono ?_;intro e w8 hq;obtain⟨g8,⟨q,hr,rfl⟩| ⟨z,i8,v,hr,rfl,⟨pe,pf,le,lf,rfl,rp,rl⟩,h8⟩⟩:=hq.split
   ·exact⟨rfl,Post.bad (Ah HK0.out.1.gr (Ah HG9.out g8)) (by rw[←HQ.out];show Res.bind (Aw l day n _) _=_;rw[hr];rfl)⟩
   have e0:Res.bind (Aw l day n (i5+1)) _=R:=HQ.out;rw[hr,Res.bind_ok]at e0;replace HQ:=Z e0;clear e0 hr;have hs8:=g8.size;have hZ8:=HZk.out.gb g8 Ag (fun q hq _ e=>by cases e;have:w6.heap.size≤b:=hq;omega);have hcz:=hZ8.blk;obtain⟨dz_0,dz_1,dz_2,dz_3,dz_4,dz_5,dz_6,dz_f⟩:=(hcz).c7;have hlz:=hcz.lt;have g11:=AD w8 w6.heap.size (.int .i64 z.h.op) (str z.h.s) (.int .i64 z.h.vk) (.int .i64 z.h.vn) (str z.h.vs) (.slice pe z.h.p.length pf) (.slice le z.kids.len lf);have hK11:=HK0.out.1.gb (A5 (Ah G9 g8) g11 (.inr (Nat.le_refl _)));have hZ11:=(hZ8.put (y:=z) rp rl (fun q hq _=>by have h1:w7.heap.size≤q:=hq;omega)).mono (ok':=Ap w6.heap.size) (fun q hq _=>by have h1:w7.heap.size≤q:=hq;show w6.heap.size≤q;omega);have hp11:=h8.gb g11 A6;simp only[set7]at hK11 hZ11 hp11;have HK:=Z hK11;have HXk:=Z hZ11;have HP11:=Z hp11;clear g11 hZ8 rp rl g8 G9 h8 hcz hK11 hZ11 hp11 HZk hp;go_upto_region 9 with fail;clear dz_0 dz_1 dz_2 dz_3 dz_4 dz_5 dz_6 dz_f hlz;generalize(((((((w8.setCell {block:=w6.heap.size,off:=0} (.int .i64 z.h.op)).setCell {block:=w6.heap.size,off:=1} (.string {data:=List.toArray z.h.s})).setCell {block:=w6.heap.size,off:=2} (.int .i64 z.h.vk)).setCell {block:=w6.heap.size,off:=3} (.int .i64 z.h.vn)).setCell {block:=w6.heap.size,off:=4} (.string {data:=List.toArray z.h.vs})).setCell {block:=w6.heap.size,off:=5} (.slice pe z.h.p.length pf)).setCell {block:=w6.heap.size,off:=6} (.slice le z.kids.len lf))=W9 at*;have hp:=HP11.out;clear HP11;have Kh{P}(h:P:=by
   have gA:=World.grownBy_alloc W9 (.cells (hdC (z).h (.slice pe (z).h.p.length pf) (.slice le (z).kids.len lf)).toArray 29 (0,0)) none;have k7:=HK.out.alloc (.cells (hdC (z).h (.slice pe (z).h.p.length pf) (.slice le (z).kids.len lf)).toArray 29 (0,0));obtain⟨cs6,ho6,hr7⟩:=k7.x;have HB:=Z (Ac k7 (Ac ho6 (Ac hr7 (Ac (HXk.out.rp.gb gA Ae) (Ac (HXk.out.rl.gb gA Ae) (hp.alloc (.cells (hdC (z).h (.slice pe (z).h.p.length pf) (.slice le (z).kids.len lf)).toArray 29 (0,0))))))));clear k7 ho6 hr7 gA hcx;go_wp2_with (at_builtin;refine wpList_append_lies _ rfl _ _ 27 rfl (w.heap.size+1) 29 i0 _ 7 104 underlying27 HI.out.1 HI.out.2.1 HI.out.2.2.1 HI.out.2.2.2 rfl Ad _ _ cs6 rfl HB.out.2.1 ⟨(W9).heap.size,0,none⟩ 1 1 (hdC (z).h (.slice pe (z).h.p.length pf) (.slice le (z).kids.len lf)) rfl rfl (Bu _ _ _) FS Ad AI Ab Ag _ rfl ?_;intro j cap w7 hown hgrow hat hlt;(have HK8:=Z (Ac (HB.out.1.addX' HB.out.2.1 HB.out.2.2.1 HB.out.2.2.2.1 HB.out.2.2.2.2.1 HF.out hown hgrow hat) (Par.app HB.out.2.2.2.2.2 hgrow (fun q hq=>(HB.out.1.belowX q hq).1) hbL 4 (.slice (some ⟨j,0,none⟩) (((Fo.one x).snoc y).len+1) cap))));(have hb7:=HB.out.1.blk.gb hgrow HB.out.1.neX);(have f7:=hb7.frozen 4);(have d7:=hb7.cell' 4 rfl);(have l7:=hb7.lt);clear hown hgrow hat hb7 HB);exact aT):=Aa h;exact JT):=Aa h
 exact AT):=Aa h;exact O7):=Aa h;exact AT):=Aa h;exact Ch):=Aa h;exact DW):=Aa h;exact Qy
end
section
variable {w:World}{b:Nat}{tv wo:Value}{l:List Tok}{i:Nat}
def DeclQ(hn:Al l)(day:Bs→Int)(n:Nat)(b:Nat)(tv wo:Value)(w:World)(wd:Bs)(rest:List Bs×Fo→Rd l StB)(R:Res StB)(g:Nat)(wr:World):Prop:=
 ∃a j m,g=m+1∧(∃pv xv bv,KA b w (w.heap.size+1) wr 2 wd [] a.1 a.2 .nil pv xv bv)∧Par wr b tv wo l wordsL j∧a.1.length+m≤n∧a.2.len+m≤n∧((Ez hn day n a).bind fun a=>(Rd.moreS [44] (Ez hn day n) m a).bind rest).f j=R
theorem LY(hn:Al l){day:Bs→Int}{n:Nat}(hnn:n≤100000)(hE:CE 56 b tv wo l wordsL (Aw l day n))(hl:AF l)(h:Par w b tv wo l wordsL i)(wd:Bs)(ho:(CH hn day n wd).f i ≠ .out):
 Calls Tryz.prog 216 #[.pointer (some ⟨b,0,none⟩),str wd] w (Post b tv wo l wordsL w (VSt w) ((CH hn day n wd).f i)):=by
 have hb:=h.lt;have HO:=Z ho;generalize hR:(CH hn day n wd).f i=R at*;unfold CH at hR;have HQ:=Z hR;have HE:=Z hE;have HSh:=Z hl;have FV{P}(h:P:=by
 have hKK:=KA.start hz gz hb Ae 2 wd;have NW{P}(h:P:=by
 have hp:=(h.alloc (.cells (stC 0 (.slice none 0 0)).toArray 50 (0,0))).alloc (.cells #[.int .i64 2,str wd,str [],.slice none 0 0,.slice none 0 0,.slice none 0 0,.int .i64 0,.slice none 0 0,.slice none 0 0,.slice none 0 0] 50 (0,0));clear hE hl h ho hR hz gz hKK;go_enter func216,ntmps216;go_wp2_with fail;go_loopg [] (n+1) (fun g wr=>DeclQ hn day n b tv wo w wd (fun a=>Rd.fin.bind fun _=>Rd.pure ({sd0 2 wd with p:=a.1,x:=a.2},.nil)) R g wr)
 case atStart=>exact⟨([],.nil),i,n,rfl,⟨_,_,_,HK.out⟩,hp,by simp,by simp[Fo.len],HQ.out⟩
 case round=>
  obtain⟨a,j0,m,rfl,⟨pv,xv,bv,hK⟩,hp1,hm1,hm2,hq⟩:=hrel;have HK:=Z hK;have hp:=hp1;have HQ:=Z hq;clear hK hp1 hq;replace HQ:=HQr HQ BQ;have e0:=HQ.out;unfold Ez at e0;rw[Rd.name_f]at e0;replace HQ:=Z e0;clear e0;have hkl:=HK.out.lt;have hx3:=HK.out.blk.cell' 3 rfl;cases hr6:AW l j0 with
  |out=>exact absurd Bz HO.out
  | bad q6=>
    exact QI
  |ok s j1=>
  replace HQ:=HQr HQ Fk;replace HQ:=HQr HQ BQ;replace HQ:=HQr HQ (by rw[Rd.ifs_f]);go_upto_region 2 with fail;go_cut []from 9 to 15 (fun wx=>(∃pv' xv' bv',KA b w (w.heap.size+1) wx 2 wd [] (a.1++[s]) a.2 .nil pv' xv' bv')∧Par wx b tv wo l wordsL j1)
  case first=>
   have Ko{P}(h:P:=by
   have hroom:=(show a.1.length≤200000 by omega);have DD{P}(h:P:=by
   go_region_law(first
    | (refine step_append_lies _ Ao _ _ 26 Ao (w.heap.size+1) 9 i0 _ 1 16 underlying26 HI.out.1 HI.out.2.1 HI.out.2.2.1 HI.out.2.2.2 rfl Ad _ _ _ Ao HB.out.1.p ⟨w6.heap.size,0,none⟩ 1 1 [str s] Ao rfl (D0 _ _ _) Dg Ad AI Ab Ag _ rfl ?_;intro j cap w7 hown hgrow hat hlt;(have HK8:=Z (Ac (HB.out.1.addP' hown hgrow hat) (Par.app HB.out.2 hgrow (fun q hq=>(HB.out.1.belowP q hq).1) hbL 3 (.slice (some ⟨j,0,none⟩) (a.1.length+1) cap))));(have hb7:=HB.out.1.blk.gb hgrow HB.out.1.neP);(have f7:=hb7.frozen 3);(have d7:=hb7.cell' 3 rfl);(have l7:=hb7.lt);clear hown hgrow hat hb7 HB)
    | (go_simp;go_at_call 98;refine(C4 (hp.drewN 1) HSh.out).mono ?_;rintro e w6 hq6;rw[hr6]at hq6;obtain⟨g6,v,rfl,rfl,h6⟩:=hq6;(have k6:=HK.out.gb (Ah (An (Aj _ _)) g6));(have l6:=k6.lt);(have d6:=k6.blk.cell' 3 rfl);(have s6:=g6.size);(have HB:=Z (Ac (k6.alloc (.cells #[str s] 9 (0,0))) (h6.alloc (.cells #[str s] 9 (0,0)))));clear k6 h6 g6))
   all_goals
    go_wp2_with fail;go_meet
    case rel=>exact⟨⟨_,_,_,HK8.out.1⟩,HK8.out.2⟩):=Aa h
   exact D9):=Aa h;exact Kf
  case rest=>
  obtain⟨⟨pv2,xv2,bv2,hK⟩,hp1⟩:=hcut;replace HK:=Z hK;replace hp:=hp1;clear hK hp1 hx3 hr6;generalize hWW:wc=W8 at*;clear hWW;have iA{P}(h:P:=by
  have HK0:=Z (Ac HK.out gZ);have hb8:=hp.lt;replace HK:=Z (HK.out.gb (AY gZ));replace hp:=hp.gbN gZ;clear gZ;have hkl:=HK.out.lt;cases hs:Ak (Af l j1) [58,61]with
  | false=>
    go_wp2_with fail;refine(B5 hp [58,61] hs).mono ?_;rintro e w9 ⟨rfl,g⟩;replace HK:=Z (HK.out.gb (AY g));have HXk:=Z (HZk.out.gbN g);replace hp:=hp.gbN g;replace HQ:=HQr HQ Cx;clear g HZk hs;replace HQ:=HQr HQ Bj;replace HQ:=HQr HQ CU;have Kh{P}(h:P:=by
    have gV{P}(h:P:=by
    obtain⟨cs6,ho6,hr7⟩:=k7.x;have HB:=Z (Ac k7 (Ac ho6 (Ac hr7 (Ac (HXk.out.rp.gb gA Ae) (Ac (HXk.out.rl.gb gA Ae) (hp.alloc (.cells (hdC (Bi).h (.slice none (Bi).h.p.length 0) (.slice none (Bi).kids.len 0)).toArray 29 (0,0))))))));clear k7 ho6 hr7 gA hcx;go_wp2_with (at_builtin;refine wpList_append_lies _ rfl _ _ 27 rfl (w.heap.size+1) 29 i0 _ 7 104 underlying27 HI.out.1 HI.out.2.1 HI.out.2.2.1 HI.out.2.2.2 rfl Ad _ _ cs6 rfl HB.out.2.1 ⟨(w9).heap.size,0,none⟩ 1 1 (hdC (Bi).h (.slice none (Bi).h.p.length 0) (.slice none (Bi).kids.len 0)) rfl rfl (Bu _ _ _) FS Ad AI Ab Ag _ rfl ?_;intro j cap w7 hown hgrow hat hlt;(have HK8:=Z (Ac (HB.out.1.addX' HB.out.2.1 HB.out.2.2.1 HB.out.2.2.2.1 HB.out.2.2.2.2.1 HF.out hown hgrow hat) (Par.app HB.out.2.2.2.2.2 hgrow (fun q hq=>(HB.out.1.belowX q hq).1) hbL 4 (.slice (some ⟨j,0,none⟩) (a.2.len+1) cap))));(have hb7:=HB.out.1.blk.gb hgrow HB.out.1.neX);(have f7:=hb7.frozen 4);(have d7:=hb7.cell' 4 rfl);(have l7:=hb7.lt);clear hown hgrow hat hb7 HB);have RH{P}(h:P:=by
    have iV{P}(h:P:=by
    cases hs:Ak (Af l j1) [44]with
    | true=>
      have RC{P}(h:P:=by
      go_roundg (m+1)
      case measure=>omega
      case rel=>exact⟨(a.1++[s],a.2.snoc Bi),_,m,rfl,⟨_,_,_,HK.out⟩,hp,by simp;omega,by simp[Fo.len_snoc];omega,HQ.out⟩):=Aa h;exact QB
    | false=>
      have RG{P}(h:P:=by
      have DC{P}(h:P:=by
      intro e w13 hq;obtain⟨g,⟨q,hr,rfl⟩| ⟨u,i13,v,hr,rfl,rfl,hp9⟩⟩:=hq.split
      ·exact BA
      have AV{P}(h:P:=by clear g;replace HQ:=HQr HQ Bj;replace HK:=Z HK.out.toKS;generalize a.1++[s]=p9 at*;generalize a.2.snoc Bi=f9 at*;exact Ke):=Aa h;exact AT):=Aa h;exact D8):=Aa h;exact QG):=Aa h
    exact aF):=Aa h;exact QH):=Aa h;exact Zw):=Aa h;exact JT
  | true=>
    go_wp2_with fail;refine(BC hp [58,61] hs).mono ?_;rintro e w9 ⟨rfl,hp9,g⟩;have hK9:=HK.out.gb g;have hkl9:=hK9.lt;have hwL:=HK.out.wL;have hbL:=HK.out.bL;replace HZk:=Z (HZk.out.gb g Ag (fun q hq _ e=>by cases e;have:W8.heap.size≤b:=hq;omega));have hl9:=HZk.out.blk.lt;have HG9:=Z (Ah (AY HK0.out.2) g);replace hp:=hp9;replace HQ:=HQr HQ EI;clear g hs hK9 HK hp9;go_wp2_with fail;refine(HE.out _ _ hp (fun e=>HO.out (by rw[←HQ.out];show Res.bind (Res.bind (Aw l day n _) _) _=_;rw[e];rfl))).mono ?_;intro e w10 hq;obtain⟨g10,⟨q,hr,rfl⟩| ⟨x,i8,v,hr,rfl,⟨pe,pf,le,lf,rfl,rp,rl⟩,h10⟩⟩:=hq.split
    ·exact⟨rfl,Post.bad (Ah HK0.out.1.gr (Ah HG9.out g10)) (by rw[←HQ.out];show Res.bind (Res.bind (Aw l day n _) _) _=_;rw[hr];rfl)⟩
    have e0:Res.bind (Res.bind (Aw l day n (j1+1)) _) _=R:=HQ.out;rw[hr,Res.bind_ok]at e0;replace HQ:=Z e0;clear e0 hr;have fX{P}(h:P:=by
    have hK11:=HK0.out.1.gb (A5 (Ah HG9.out g10) g11 (.inr (Nat.le_refl _)));have dB{P}(h:P:=by
    have hp11:=h10.gb g11 A6;simp only[set7]at hK11 hZ11 hp11;have HK:=Z hK11;have HXk:=Z hZ11;have HP11:=Z hp11;clear g11 hZ10 rp rl g10 HG9 h10 hcz hK11 hZ11 hp11 HZk hp;go_upto_region 6 with fail;clear dz_0 dz_1 dz_2 dz_3 dz_4 dz_5 dz_6 dz_f hlz;have fA{P}(h:P:=by
    have hp:=HP11.out;clear HP11;have Kh{P}(h:P:=by
    have iB{P}(h:P:=by
    obtain⟨cs6,ho6,hr7⟩:=k7.x;have HB:=Z (Ac k7 (Ac ho6 (Ac hr7 (Ac (HXk.out.rp.gb gA Ae) (Ac (HXk.out.rl.gb gA Ae) (hp.alloc (.cells (hdC (x).h (.slice pe (x).h.p.length pf) (.slice le (x).kids.len lf)).toArray 29 (0,0))))))));clear k7 ho6 hr7 gA hcx;go_wp2_with (at_builtin;refine wpList_append_lies _ rfl _ _ 27 rfl (w.heap.size+1) 29 i0 _ 7 104 underlying27 HI.out.1 HI.out.2.1 HI.out.2.2.1 HI.out.2.2.2 rfl Ad _ _ cs6 rfl HB.out.2.1 ⟨(W9).heap.size,0,none⟩ 1 1 (hdC (x).h (.slice pe (x).h.p.length pf) (.slice le (x).kids.len lf)) rfl rfl (Bu _ _ _) FS Ad AI Ab Ag _ rfl ?_;intro j cap w7 hown hgrow hat hlt;(have HK8:=Z (Ac (HB.out.1.addX' HB.out.2.1 HB.out.2.2.1 HB.out.2.2.2.1 HB.out.2.2.2.2.1 HF.out hown hgrow hat) (Par.app HB.out.2.2.2.2.2 hgrow (fun q hq=>(HB.out.1.belowX q hq).1) hbL 4 (.slice (some ⟨j,0,none⟩) (a.2.len+1) cap))));(have hb7:=HB.out.1.blk.gb hgrow HB.out.1.neX);(have f7:=hb7.frozen 4);(have d7:=hb7.cell' 4 rfl);(have l7:=hb7.lt);clear hown hgrow hat hb7 HB);have RH{P}(h:P:=by
    have iV{P}(h:P:=by
    cases hs:Ak (Af l i8) [44]with
    | true=>
      have RC{P}(h:P:=by
      go_roundg (m+1)
      case measure=>omega
      case rel=>exact⟨(a.1++[s],a.2.snoc x),_,m,rfl,⟨_,_,_,HK.out⟩,hp,by simp;omega,by simp[Fo.len_snoc];omega,HQ.out⟩):=Aa h;exact QB
    | false=>
      have RG{P}(h:P:=by
      have DC{P}(h:P:=by
      intro e w13 hq;obtain⟨g,⟨q,hr,rfl⟩| ⟨u,i13,v,hr,rfl,rfl,hp9⟩⟩:=hq.split
      ·exact BA
      have AV{P}(h:P:=by clear g;replace HQ:=HQr HQ Bj;replace HK:=Z HK.out.toKS;generalize a.1++[s]=p9 at*;generalize a.2.snoc x=f9 at*;exact Ke):=Aa h;exact AT):=Aa h;exact D8):=Aa h;exact QG):=Aa h
    exact aF):=Aa h;exact QH):=Aa h;exact Z2):=Aa h;exact JT):=Aa h;exact Y5):=Aa h;exact Tt):=Aa h;exact Zg):=Aa h
  exact Z1):=Aa h
 exact Nu):=Aa h;exact FU
end
section
variable {b:Nat}{tv:Value}{l:List Tok}
def zW(hn:Al l)(day:Bs→Int)(n:Nat)(b:Nat)(tv:Value)(w:World)(q:(List Bs×Fo)×RS)(g:Nat)(v:Value)(wr:World):Prop:=
 ∃(go:Bool)(a:List Bs×Fo)(st:RS),v= .bool go∧(∃pv xv,KA b w (w.heap.size+1) wr 13 Ea [] a.1 a.2 .nil pv xv (.slice none 0 0))∧Rr wr b tv l st∧
  ((go=true∧∃m,g=m+1∧a.1.length+m≤n∧a.2.len+m≤n∧((CX hn wordsL day n a).bind (Rd.moreS [44] (CX hn wordsL day n) m)).g st=some q)∨(go=false∧g=0∧(a,st)=q))
theorem l4(hn:Al l){day:Bs→Int}{n:Nat}(hnn:n≤100000)(hE:CR 28 b tv l (AN l day n))(hok:∀i,At (Af l i)):CT b tv l hn day n Ea:=by
 intro w st r h ho;replace ho:((CX hn wordsL day n ([],.nil)).bind fun a=>(Rd.moreS [44] (CX hn wordsL day n) n a).bind fun a=>(Ba hn wordsL day n n B7).bind fun c=>Rd.pure (Cb {sd0 13 Ea with p:=a.1,x:=a.2} c)).g st=some r:=ho;obtain⟨a0,st0,h0,ho⟩:=Rd.bind_g ho;obtain⟨a1,st1,h1,ho⟩:=Rd.bind_g ho;have Kg{P}(h:P:=by
 have hp:((CX hn wordsL day n ([],.nil)).bind (Rd.moreS [44] (CX hn wordsL day n) n)).g st=some (a1,st1):=by
  show((CX hn wordsL day n ([],.nil)).g st).bind _=_;rw[h0];exact h1
 have HP:=Z hp;have HC:=Z hc;obtain⟨hb,hKK,hR⟩:=CN Ea h;clear h;have HK:=Z hKK;have H:=Z (Ac True.intro (Ac hE hok));clear hE hok hp h0 h1 hKK hc;go_enter func192,ntmps192;go_wp2_with fail;go_loopg [7] (n+1) (fun g v7 wr=>zW hn day n b tv w (a1,st1) g v7 wr)
 case atStart=>exact⟨true,([],.nil),_,rfl,⟨_,_,HK.out⟩,hR,.inl ⟨rfl,n,rfl,by simp,by simp[Fo.len],HP.out⟩⟩
 case round=>
  obtain⟨go,a,st3,rfl,⟨pv,xv,hK⟩,hR1,hq⟩:=hrel;have HK:=Z hK;have hR:=hR1;clear hK hR1 HP;rcases hq with⟨rfl,m,rfl,hm1,hm2,hq⟩| ⟨rfl,rfl,hq⟩
  ·obtain⟨a',st4,hpa,hqq⟩:=Rd.bind_g hq;clear hq;unfold CX at hpa;rw[Rd.name_g,Rd.must_gb]at hpa;obtain⟨x,st5,hx,hpa⟩:=Rd.bind_g hpa;rw[Rd.pure_g]at hpa;cases hpa;have HX:=Z (Ac hx hqq);clear hx hqq;have hkl:=HK.out.lt;have hx3:=HK.out.blk.cell' 3 rfl;go_wp2_with fail;have Ko{P}(h:P:=by
   have hroom:=hm1;have DD{P}(h:P:=by
   go_region_law(first
    | (refine step_append_lies _ Ao _ _ 26 Ao (w.heap.size+1) 9 i0 _ 1 16 underlying26 HI.out.1 HI.out.2.1 HI.out.2.2.1 HI.out.2.2.2 rfl Ad _ _ _ Ao HB.out.1.p ⟨w6.heap.size,0,none⟩ 1 1 [str (Ax l st3).1] Ao rfl (D0 _ _ _) Dg Ad AI Ab Ag _ rfl ?_;intro j cap w7 hown hgrow hat hlt;(have HK8:=Z (Ac (HB.out.1.addP' hown hgrow hat) (Rr.app HB.out.2 hgrow (fun q hq=>(HB.out.1.belowP q hq).1) hbL 3 (.slice (some ⟨j,0,none⟩) (a.1.length+1) cap))));(have hb7:=HB.out.1.blk.gb hgrow HB.out.1.neP);(have f7:=hb7.frozen 3);(have d7:=hb7.cell' 3 rfl);(have l7:=hb7.lt);clear hown hgrow hat hb7 HB)
    | (go_simp;go_at_call 73;refine(BY (hR.drewN 1)).mono ?_;rintro e w6 ⟨g6,v,rfl,rfl,h6⟩;(have k6:=HK.out.gb (Ah (An (Aj _ _)) g6));(have l6:=k6.lt);(have d6:=k6.blk.cell' 3 rfl);(have s6:=g6.size);(have HB:=Z (Ac (k6.alloc (.cells #[str (Ax l st3).1] 9 (0,0))) (h6.alloc (.cells #[str (Ax l st3).1] 9 (0,0)))));clear k6 h6 g6))
   all_goals
    generalize hWW:World.setCell _ _ _=W8 at*;have HK:=Z HK8.out.1;have hR:=HK8.out.2;clear HK8 hx3 d6 d7 f7 l6 l7 s6;generalize hpv:Value.slice (some ⟨j,0,none⟩) (a.1.length+1) cap=pv2 at*;clear hpv;go_wp2_with fail;refine(C5 hR H.out.2.2 Gn Ad).mono ?_;rintro e w9 ⟨g9,v,rfl,rfl,h9⟩;replace HK:=Z (HK.out.gb g9);clear g9;have hR:=h9;clear h9;go_upto_region 37 with fail;refine AL (fun W=>(∃pv2 xv2,KA b w (w.heap.size+1) W 13 Ea [] (a.1++[(Ax l st3).1]) a.2 .nil pv2 xv2 (.slice none 0 0))∧Rr W b tv l (DP l wordsL Gn (Ax l st3).2)) ⟨⟨_,_,HK.out⟩,hR⟩ ?_;clear HK hR;rintro W9 ⟨⟨pv3,xv3,hK9⟩,hR⟩;have HK:=Z hK9;clear hK9;have EQ{P}(h:P:=by
    have hroom:=hm2;have Iu{P}(h:P:=by
    have RO{P}(h:P:=by
    have HFr:=Z (fun q hq=>HK.out.fresh q hq);have kA:=(HK.out.gbN (An (Aj W9 none))).alloc (.cells zeroE.toArray 29 (0,0));have dA{P}(h:P:=by
    go_region_law(first
     | (refine step_append_lies _ Ao _ _ 27 Ao ((w).heap.size+1) 29 i0 _ 7 104 underlying27 HI.out.1 HI.out.2.1 HI.out.2.2.1 HI.out.2.2.2 rfl Ad _ _ csB Ao HA2.out.2.1 _ 1 1 zeroE Ao rfl HZ2.out EK Ad AI Ab Eo _ rfl ?_;intro j cap w7 hown hgrow hat hlt;(have HPF:=Z (Ac (HA2.out.1.pend rfl HA2.out.2.1 HA2.out.2.2.1 hown hgrow hat) (HA2.out.2.2.2.1.gb hgrow (fun q hq=>(HA2.out.1.belowX q hq).1))));(have HVF:=Z (Kz (f:=a.2) (cap:=cap) HA2.out.2.2.2.2.1 HA2.out.2.2.2.2.2 (fun q hq _=>hq) HFr.out hgrow hat));(have f7:=(HA2.out.1.blk.gb hgrow HA2.out.1.neX).frozen 4);(have d7:=(HA2.out.1.blk.gb hgrow HA2.out.1.neX).cell' 4 rfl);(have l7:=HPF.out.1.lt);(have bj7:=HPF.out.1.bj);(have nj7:=HPF.out.1.neL);(have fe7:=fun i=>HPF.out.1.frozenE i);(obtain⟨u70,e70⟩:=HPF.out.1.cellE 0 Ad);(obtain⟨u71,e71⟩:=HPF.out.1.cellE 1 Ad);(obtain⟨u72,e72⟩:=HPF.out.1.cellE 2 Ad);(obtain⟨u73,e73⟩:=HPF.out.1.cellE 3 Ad);(obtain⟨u74,e74⟩:=HPF.out.1.cellE 4 Ad);(obtain⟨u75,e75⟩:=HPF.out.1.cellE 5 Ad);(obtain⟨u76,e76⟩:=HPF.out.1.cellE 6 Ad);(try simp only[Nat.add_zero]at e70);clear hown hgrow hat)
     | (refine step_append_lies _ Ao _ _ 27 Ao ((w).heap.size+1) 29 i0 _ 7 104 underlying27 HI.out.1 HI.out.2.1 HI.out.2.2.1 HI.out.2.2.2 rfl Ad _ _ csA Ao HA1.out.2.1 ⟨(W9).heap.size,0,none⟩ 1 1 zeroE Ao rfl (Bu _ _ _) EK Ad AI Ab Eo _ rfl ?_;intro j cap w7 hown hgrow hat hlt;(have HP1:=Z (Ac (HA1.out.1.pend rfl HA1.out.2.1 HA1.out.2.2.1 hown hgrow hat) (HA1.out.2.2.2.gb hgrow (fun q hq=>(HA1.out.1.belowX q hq).1))));(have f7:=(HA1.out.1.blk.gb hgrow HA1.out.1.neX).frozen 4);(have d7:=(HA1.out.1.blk.gb hgrow HA1.out.1.neX).cell' 4 rfl);(have l7:=HP1.out.1.lt);(have s7:=hgrow.size);(have bj7:=HP1.out.1.bj);clear hown hgrow hat)
     | (go_simp;go_at_call 28;refine(H.out.2.1 _ _ _ HP1.out.2 HX.out.1).mono ?_;rintro e w8 ⟨g8,v,rfl,⟨pa6,pc6,la6,lc6,rfl,q1,q2⟩,h8⟩;(have hKP:=HP1.out.1.gb g8);(have HPF:=Z (Ac hKP h8));(have HVF:=Z (Ac (q1.mono (fun q hq _=>HP1.out.1.fresh q hq)) (q2.mono (fun q hq _=>HP1.out.1.fresh q hq))));(have f8:=hKP.blk.frozen 4);(have d8:=hKP.blk.cell' 4 rfl);(have l8:=hKP.lt);(have bj8:=hKP.bj);(have nj8:=hKP.neL);(have fe8:=fun i=>HPF.out.1.frozenE i);(obtain⟨u70,e70⟩:=HPF.out.1.cellE 0 Ad);(obtain⟨u71,e71⟩:=HPF.out.1.cellE 1 Ad);(obtain⟨u72,e72⟩:=HPF.out.1.cellE 2 Ad);(obtain⟨u73,e73⟩:=HPF.out.1.cellE 3 Ad);(obtain⟨u74,e74⟩:=HPF.out.1.cellE 4 Ad);(obtain⟨u75,e75⟩:=HPF.out.1.cellE 5 Ad);(obtain⟨u76,e76⟩:=HPF.out.1.cellE 6 Ad);(try simp only[Nat.add_zero]at e70);clear hKP q1 q2 g8 h8)
     | (go_simp;go_at_call 28;refine(H.out.2.1 _ _ _ (HP1.out.2.gb (As (Aj w7 (some (w.heap.size+1))) 4 (.slice (some ⟨j,0,none⟩) ((a.2).len+1) cap)) A6) HX.out.1).mono ?_;rintro e w8 ⟨g8,v,rfl,⟨pa6,pc6,la6,lc6,rfl,q1,q2⟩,h8⟩;(have hKP:=(HP1.out.1.put4 (.slice (some ⟨j,0,none⟩) ((a.2).len+1) cap)).gb g8);(have HPF:=Z (Ac hKP h8));(have HVF:=Z (Ac (q1.mono (fun q hq _=>(HP1.out.1.put4 (.slice (some ⟨j,0,none⟩) ((a.2).len+1) cap)).fresh q hq)) (q2.mono (fun q hq _=>(HP1.out.1.put4 (.slice (some ⟨j,0,none⟩) ((a.2).len+1) cap)).fresh q hq))));(have bj8:=hKP.bj);(have nj8:=hKP.neL);(have l8:=hKP.lt);(have fe8:=fun i=>HPF.out.1.frozenE i);(obtain⟨u70,e70⟩:=HPF.out.1.cellE 0 Ad);(obtain⟨u71,e71⟩:=HPF.out.1.cellE 1 Ad);(obtain⟨u72,e72⟩:=HPF.out.1.cellE 2 Ad);(obtain⟨u73,e73⟩:=HPF.out.1.cellE 3 Ad);(obtain⟨u74,e74⟩:=HPF.out.1.cellE 4 Ad);(obtain⟨u75,e75⟩:=HPF.out.1.cellE 5 Ad);(obtain⟨u76,e76⟩:=HPF.out.1.cellE 6 Ad);(try simp only[Nat.add_zero]at e70);clear hKP q1 q2 g8 h8)
     | (go_simp;go_at_call 28;refine(H.out.2.1 _ _ _ (hR.drewN 1) HX.out.1).mono ?_;rintro e w6 ⟨g6,v,rfl,⟨pa6,pc6,la6,lc6,rfl,q1,q2⟩,h6⟩;(have k6:=HK.out.gb (Ah (An (Aj _ _)) g6));(have l6:=k6.lt);(have s6:=g6.size);(have d6:=k6.blk.cell' 4 rfl);(have k7:=k6.alloc (.cells zeroE.toArray 29 (0,0)));(obtain⟨csB,ho6,hr6⟩:=k7.x);(have gA:=World.grownBy_alloc w6 (.cells zeroE.toArray 29 (0,0)) none);(have HA2:=Z (Ac k7 (Ac ho6 (Ac hr6 (Ac (h6.alloc (.cells zeroE.toArray 29 (0,0))) (Ac (q1.gb gA Ae) (q2.gb gA Ae)))))));(have HZ2:=Z (Bu w6 zeroE 29));clear k6 k7 ho6 hr6 gA q1 q2 h6 g6)
     | (go_simp;go_at_call 28;refine(H.out.2.1 _ _ _ HA1.out.2.2.2 HX.out.1).mono ?_;rintro e w6 ⟨g6,v,rfl,⟨pa6,pc6,la6,lc6,rfl,q1,q2⟩,h6⟩;(have k6:=HA1.out.1.gb g6);(have l6:=k6.lt);(have s6:=g6.size);(have d6:=k6.blk.cell' 4 rfl);(obtain⟨csB,ho6,hr6⟩:=k6.x);(have HA2:=Z (Ac k6 (Ac ho6 (Ac hr6 (Ac h6 (Ac (q1.mono (ok':=Ap (W9).heap.size) (fun q hq _=>Nat.le_of_succ_le D4)) (q2.mono (ok':=Ap (W9).heap.size) (fun q hq _=>Nat.le_of_succ_le D4))))))));(have HZ2:=Z (show ∀i u,zeroE[i]? =some u→w6.cell? ((⟨(W9).heap.size,0,none⟩:Addr).add i)=some u from fun i u hu=>KB (((Blk.new (World.drew W9) zeroE 29).gb g6 Ag).cell' i hu)));clear k6 ho6 hr6 q1 q2 h6 g6))
    all_goals
     go_upto_region 34 with fail;have dN{P}(h:P:=by
     refine AL (fun W=>(∃pv2 xv2,KA b w (w.heap.size+1) W 13 Ea [] (a.1++[(Ax l st3).1]) (a.2.snoc x) .nil pv2 xv2 (.slice none 0 0))∧Rr W b tv l st4) ?hW ?_
     case hW=>
      first
      |exact⟨⟨_,_,by with_reducible exact hE1.1⟩,by with_reducible exact hE1.2⟩
      |exact⟨⟨_,_,by with_reducible exact hE2.1⟩,by with_reducible exact hE2.2⟩
     clear hE1 hE2 HPF HVF;rintro W10 ⟨⟨pv4,xv4,hK10⟩,hR10⟩;have HW:=Z (B9 hR10 [44]);rcases Rd.moreS_g HX.out.2 with⟨hw,m',rfl,hqq⟩| ⟨hw,hqq⟩
     ·have iK{P}(h:P:=by
      go_roundg (m'+1)
      case measure=>omega
      case rel=>exact⟨true,(a.1++[(Ax l st3).1],a.2.snoc x),_,rfl,⟨_,_,HK12.out⟩,h12,.inl ⟨rfl,m',rfl,by simp;omega,by simp[Fo.len_snoc];omega,HQ.out⟩⟩):=Aa h;exact ZR
     ·have iK{P}(h:P:=by
      go_roundg 0
      case measure=>omega
      case rel=>exact⟨false,(a.1++[(Ax l st3).1],a.2.snoc x),_,rfl,⟨_,_,HK12.out⟩,h12,.inr ⟨rfl,rfl,HQ.out.symm⟩⟩):=Aa h;exact ZR):=Aa h
     exact TF):=Aa h
    exact Ts):=Aa h;exact QR):=Aa h;exact Il):=Aa h;exact EN):=Aa h
   exact D9):=Aa h;exact Kf
  cases hq;replace HK:=Z HK.out.toKS;go_wp2_with fail;have hkl:=HK.out.lt;have hwL:=HK.out.wL;refine(TZ hn H.out.2.1 H.out.2.2 hR HC.out).mono ?_;rintro e w20 ⟨g20,v,rfl,⟨na,fa,wa,nc,fc,wc,rfl,rn,rf,rw0⟩,h20⟩;simp only at rn rf rw0 h20 ⊢;have L8{P}(h:P:=by
  have hfr:∀q,Ap (wr).heap.size q→q<w20.heap.size→but w (w.heap.size+1) q:=fun q hq _=>by have h1:(wr).heap.size≤q:=hq;(try simp at h1);exact⟨by omega,by omega⟩
  exact L5):=Aa h;exact Lk):=Aa h
 exact Jq
end
section
variable {b:Nat}{tv:Value}{l:List Tok}{day:Bs→Int}{n:Nat}
theorem l5(hn:Al l)(hnn:n≤90000)(hE:CR 28 b tv l (AN l day n))(hok:∀i,At (Af l i)){wd:Bs}(hw:cmdWords.contains wd=true):CT b tv l hn day n wd:=by
 have hm:wd∈cmdWords:=GV;simp only[cmdWords,List.mem_cons,List.not_mem_nil,or_false]at hm;rcases hm with rfl|rfl|rfl|rfl|rfl|rfl|rfl|rfl|rfl|rfl|rfl|rfl|rfl|rfl|rfl|rfl|rfl
 ·exact oD hn
 ·exact yH hn hok
 ·exact AbD hn hE hok
 ·exact wV hn hE
 ·exact uS hn hE
 ·exact k5 hn
 ·exact uR hn
 ·exact yI hn
 ·exact n8 hn hok
 ·exact oA hn hE hok
 ·exact n9 hn hE hok
 ·exact oC hn hE hok
 ·exact l4 hn Ab hE hok
 ·exact q8 hn hE hok
 ·exact yG hn hE hok
 ·exact rA hn hE hok
 ·exact yF hn hE hok
theorem Og{w w0 w1:World}{v:Value}{s:StB}{st:RS}(hb:b<w.heap.size)(hz:Blk w0 w.heap.size (stC 0 (.slice none 0 0)) 50)(g0:w.grownBy w0 (some b))(g:w0.grownBy w1 (some b))(hv:StV (Ap w0.heap.size) w1 v s)(hR:Rr w1 b tv l st):
 ∃pa xa ba na fa wa,∃pc xc bc nc fc wc,v= .agg #[.int .i64 s.1.op,str s.1.s,str s.1.t,.slice pa s.1.p.length pc,.slice xa s.1.x.len xc,.slice ba s.2.len bc,.int .i64 s.1.kind,.slice na s.1.n.len nc,.slice fa s.1.f.len fc,.slice wa s.1.w.len wc]∧
  Blk w1 w.heap.size (stC 0 (.slice none 0 0)) 50∧
  AM b tv l w (VSt w) (s,st) (.returned v) (set10 w1 w.heap.size (.int .i64 s.1.op) (str s.1.s) (str s.1.t) (.slice pa s.1.p.length pc) (.slice xa s.1.x.len xc) (.slice ba s.2.len bc) (.int .i64 s.1.kind) (.slice na s.1.n.len nc) (.slice fa s.1.f.len fc) (.slice wa s.1.w.len wc))∧
  Blk (set10 w1 w.heap.size (.int .i64 s.1.op) (str s.1.s) (str s.1.t) (.slice pa s.1.p.length pc) (.slice xa s.1.x.len xc) (.slice ba s.2.len bc) (.int .i64 s.1.kind) (.slice na s.1.n.len nc) (.slice fa s.1.f.len fc) (.slice wa s.1.w.len wc)) w.heap.size
   (sdC s.1 (.slice pa s.1.p.length pc) (.slice xa s.1.x.len xc) (.slice ba s.2.len bc) (.slice na s.1.n.len nc) (.slice fa s.1.f.len fc) (.slice wa s.1.w.len wc)) 50:=by
 have fE{P}(h:P:=by refine⟨pa,xa,ba,na,fa,wa,pc,xc,bc,nc,fc,wc,rfl,hz1,⟨A5 (Ah g0 g) g10 (.inr (Nat.le_refl _)),_,rfl,?_,hR.gb g10 A6⟩,hz1.set10 _ _ _ _ _ _ _ _ _ _⟩;exact Zc):=Aa h;exact YE
def CL(b:Nat)(tv:Value)(l:List Tok)(hn:Al l)(day:Bs→Int)(n:Nat)(block:Rd l Bl)(wd:Bs):Prop:=
 ∀(w:World)(i:Nat)(r:StB×RS),Rr w b tv l (i,false)→i<l.length→(Bx hn wordsL day n block wd).g (i,false)=some r→Calls Tryz.prog 136 #[.pointer (some ⟨b,0,none⟩),str wd] w (AM b tv l w (VSt w) r)
theorem yN{block:Rd l Bl}(hn:Al l)(hnn:n≤90000)(hB:CRB b tv l block.g)(hE:CR 28 b tv l (AN l day n))(hok:∀i,At (Af l i)):CL b tv l hn day n block wIF:=by
 intro w i r h hi ho;replace ho:(Rd.skip.bind fun _=>DY hn wordsL day n block F6 H8 Hw).g (i,false)=some r:=ho;rw[Rd.skip_g]at ho;have EO{P}(h:P:=by have HC:=Z (n7 hn Ab hB hE hok h1 ho);clear hB hE hok ho;exact GW):=Aa h;exact EL
theorem yM{block:Rd l Bl}(hn:Al l)(hnn:n≤90000)(hB:CRB b tv l block.g)(hE:CR 28 b tv l (AN l day n))(hok:∀i,At (Af l i)):CL b tv l hn day n block wDO:=by
 intro w i r h hi ho;replace ho:(Rd.skip.bind fun _=>doP hn wordsL day n block).g (i,false)=some r:=ho;rw[Rd.skip_g]at ho;have EO{P}(h:P:=by have HC:=Z (AbE hn Ab hB hE hok h1 ho);clear hB hE hok ho;exact GW):=Aa h;exact EL
theorem xB{block:Rd l Bl}(hn:Al l)(hnn:n≤90000)(hB:CRB b tv l block.g)(hE:CR 28 b tv l (AN l day n))(hok:∀i,At (Af l i)):CL b tv l hn day n block BH:=by
 intro w i r h hi ho;replace ho:(Rd.skip.bind fun _=>Fb hn wordsL day n block).g (i,false)=some r:=ho;rw[Rd.skip_g]at ho;have EO{P}(h:P:=by have HC:=Z (wX hn hB hE hok h1 ho);clear hB hE hok ho;exact GW):=Aa h;exact EL
theorem oH{block:Rd l Bl}(hn:Al l)(hB:CRB b tv l block.g)(hok:∀i,At (Af l i)):CL b tv l hn day n block Hy:=by
 intro w i r h hi ho;replace ho:(Rd.skip.bind fun _=>ET hn wordsL block).g (i,false)=some r:=ho;rw[Rd.skip_g]at ho;have EO{P}(h:P:=by have HC:=Z (rC hn hB hok h1 ho);clear hB hok ho;exact GW):=Aa h;exact EL
end
theorem Vv{b:Nat}{tv:Value}{l:List Tok}{w W:World}{st:RS}(hb:b<w.heap.size)(g:w.grownBy W (some b))(hR:Rr W b tv l st)(op:Int):
 AM b tv l w (VSt w) ((sd0 op [],.nil),st) (.returned (.agg #[.int .i64 op,str [],str [],.slice none 0 0,.slice none 0 0,.slice none 0 0,.int .i64 0,.slice none 0 0,.slice none 0 0,.slice none 0 0]))
  (set10 W w.heap.size (.int .i64 op) (str []) (str []) (.slice none 0 0) (.slice none 0 0) (.slice none 0 0) (.int .i64 0) (.slice none 0 0) (.slice none 0 0) (.slice none 0 0)):=by
 have cU{P}(h:P:=by exact⟨A5 g g10 (.inr (Nat.le_refl _)),_,rfl,⟨none,none,none,none,none,none,0,0,0,0,0,0,rfl,⟨Cells.nil _ _ _,RepL.nil _ _,RepL.nil _ _,RepL.nil _ _,RepL.nil _ _⟩,RepV.nil _ _ _⟩,hR.gb g10 A6⟩):=Aa h;exact Th
section
variable {b:Nat}{tv:Value}{l:List Tok}{day:Bs→Int}{n:Nat}
theorem oJ{block:Rd l Bl}(hn:Al l)(hnn:n≤90000)(hE:CR 28 b tv l (AN l day n)):CL b tv l hn day n block Gh:=by
 intro w i r h hi ho;replace ho:(Rd.skip.bind fun _=>CH hn day n Gh).g (i,false)=some r:=ho;rw[Rd.skip_g]at ho;have EO{P}(h:P:=by have HC:=Z (Ma hn Ab hE h1 Gh ho);clear hE ho;exact GW):=Aa h;exact EL
theorem k8{block:Rd l Bl}(hn:Al l)(hnn:n≤90000)(hE:CR 28 b tv l (AN l day n)):CL b tv l hn day n block FW:=by
 intro w i r h hi ho;replace ho:(Rd.skip.bind fun _=>CH hn day n FW).g (i,false)=some r:=ho;rw[Rd.skip_g]at ho;have EO{P}(h:P:=by have HC:=Z (Ma hn Ab hE h1 FW ho);clear hE ho;exact GW):=Aa h;exact EL
theorem mD{block:Rd l Bl}(hn:Al l)(hnn:n≤90000)(hE:CR 28 b tv l (AN l day n)):CL b tv l hn day n block Gd:=by
 intro w i r h hi ho;replace ho:(Rd.skip.bind fun _=>CH hn day n Gd).g (i,false)=some r:=ho;rw[Rd.skip_g]at ho;have EO{P}(h:P:=by have HC:=Z (Ma hn Ab hE h1 Gd ho);clear hE ho;exact GW):=Aa h;exact EL
theorem mF{block:Rd l Bl}(hn:Al l)(hnn:n≤90000)(hE:CR 28 b tv l (AN l day n)):CL b tv l hn day n block Ge:=by
 intro w i r h hi ho;replace ho:(Rd.skip.bind fun _=>CH hn day n Ge).g (i,false)=some r:=ho;rw[Rd.skip_g]at ho;have EO{P}(h:P:=by have HC:=Z (Ma hn Ab hE h1 Ge ho);clear hE ho;exact GW):=Aa h;exact EL
end
theorem Vx{b:Nat}{tv:Value}{l:List Tok}{w W:World}{r:StB×RS}{e:Ending}(h:AM b tv l w (VSt w) r e W)(o:Obj):AM b tv l w (VSt w) r e (W.alloc o):=by
 obtain⟨g,v,he,hv,hR⟩:=h;exact⟨Ar g o,v,he,hv.gb (World.grownBy_alloc W o none) Ae,hR.alloc o⟩
section
variable {b:Nat}{tv:Value}{l:List Tok}{day:Bs→Int}{n:Nat}
theorem rJ{block:Rd l Bl}(hn:Al l):CL b tv l hn day n block FE:=by
 intro w i r h hi ho;replace ho:(Rd.skip.bind fun _=>Rd.fin.bind fun _=>Rd.pure (sd0 6 [],Bl.nil)).g (i,false)=some r:=ho;rw[Rd.skip_g,Rd.fin_g,Rd.pure_g]at ho;cases ho;have EO{P}(h:P:=by
 go_wp2_with fail;refine(BR h1).mono ?_;rintro e w2 ⟨g2,v,rfl,rfl,h2⟩;have hz2:=HZ.out.1.gb g2 Ag;have HE:=Z (Ac hz2 (Ac (Ah HZ.out.2 g2) h2));have NE{P}(h:P:=by
 have iQ{P}(h:P:=by
 clear g2 h2 hz2;go_wp2;refine bodyPost_ret ?hr9 rfl (Vx (Vv hb HE.out.2.1 HE.out.2.2 6) _)
 case hr9=>exact FL rfl _ ((HE.out.1.set10 (.int .i64 6) (str []) (str []) (.slice none 0 0) (.slice none 0 0) (.slice none 0 0) (.int .i64 0) (.slice none 0 0) (.slice none 0 0) (.slice none 0 0)).alloc _) rfl rfl):=Aa h;exact ZX):=Aa h;exact Na):=Aa h;exact EL
theorem rI{block:Rd l Bl}(hn:Al l):CL b tv l hn day n block FD:=by
 intro w i r h hi ho;replace ho:(Rd.skip.bind fun _=>Rd.fin.bind fun _=>Rd.pure (sd0 7 [],Bl.nil)).g (i,false)=some r:=ho;rw[Rd.skip_g,Rd.fin_g,Rd.pure_g]at ho;cases ho;have EO{P}(h:P:=by
 go_wp2_with fail;refine(BR h1).mono ?_;rintro e w2 ⟨g2,v,rfl,rfl,h2⟩;have hz2:=HZ.out.1.gb g2 Ag;have HE:=Z (Ac hz2 (Ac (Ah HZ.out.2 g2) h2));have NE{P}(h:P:=by
 have iR{P}(h:P:=by
 clear g2 h2 hz2;go_wp2;refine bodyPost_ret ?hr9 rfl (Vx (Vv hb HE.out.2.1 HE.out.2.2 7) _)
 case hr9=>exact FL rfl _ ((HE.out.1.set10 (.int .i64 7) (str []) (str []) (.slice none 0 0) (.slice none 0 0) (.slice none 0 0) (.int .i64 0) (.slice none 0 0) (.slice none 0 0) (.slice none 0 0)).alloc _) rfl rfl):=Aa h;exact ZY):=Aa h;exact Na):=Aa h;exact EL
end
def EX(W:World)(m:Nat)(l:List (Bs×Value)):World:={W with heap:=W.heap.setIfInBounds m (Bh l)}
theorem Ky(W:World)(m:Nat)(l:List (Bs×Value)):(EX W m l).heap.size=W.heap.size:=by simp[EX]
theorem UL{W:World}{m:Nat}(hm:m<W.heap.size)(l:List (Bs×Value)):(EX W m l).heap[m]? =some (Bh l):=by simp[EX,Array.getElem?_setIfInBounds,hm]
theorem pC{W:World}{m k:Nat}(hk:k≠m)(l:List (Bs×Value)):(EX W m l).heap[k]? =W.heap[k]?:=by simp[EX,Array.getElem?_setIfInBounds,Ne.symm hk]
theorem V8{W:World}{l:List (Bs×Value)}{m:Nat}(hb:W.heap[m]? =some (Bh l))(k:Bs)(v:Int)(hf:Gk k l):
 (Instr.mapUpdate 181 (.map (some m)) (str k) (.int .i64 v)).run Tryz.prog W= .ok () (EX W m (l++[(k,.int .i64 v)])):=by
 have hb:W.heap[m]? =some (.map (CW l 0).toArray l.length):=hb;have hf:Instr.findNow .string (str k) (CW l 0) 0=some none:=by rw[OC,Vj k l hf]
 have hc:(Instr.checkKey false 10000 9 (str k)).run Tryz.prog W= .ok () W:=MapKept.run_checkKey (k:=str k) underlying9 Lj false 9999;simp[Instr.mapUpdate,run_underlying underlying181,MapKept.run_getObj_map hb,hc,MapKept.run_findKey underlying9 hf,MapKept.run_setObj_map _ hb,Result.andThen];have e2:(Obj.map (CW l 0++[({key:=str k,val:= .int .i64 v,born:=l.length}:MapEntry)]).toArray (l.length+1))=Bh (l++[(k,.int .i64 v)]):=by simp[Bh,UH]
 rw[e2];rfl
end Go.Proofs.YtmcajbhljbbglaaGreatDoor
