/-
  QgD VaD
-/
import Derived.Test.YtbjfaimkiclhgaaGreatDoorCr11
set_option linter.all false
set_option maxRecDepth 100000
set_option maxHeartbeats 8000000
namespace Go.Proofs.YtbjfaimkiclhgaaGreatDoor
open Go.Proofs.Tryz
open Go.RowKit
section
variable {w:World}{b:Nat}{tv wo:Value}{l:List Tok}{i:Nat}
def VC{block:Rd l Bl}(hn:Al l){day:Bs->Int}{n:Nat}(hB:CQB b tv wo l block.f)(hE:CE 208 b tv wo l wordsL (Ak l day n))(hok:∀i,At (Ab l i))(hl:A0 l)(hg:Glob w)(hgb:4<b)(h:Par w b tv wo l wordsL i)(ho:(EU hn wordsL day n block).f i ≠ .out):
 Calls Tryz.prog 326 #[.pointer (some ⟨b,0,none⟩)] w (Post b tv wo l wordsL w (VSt w) ((EU hn wordsL day n block).f i)):=by
 have hb:=h.lt;have HO:=S ho;generalize hR:(EU hn wordsL day n block).f i=R at*;unfold EU at hR;rw[Rd.name_f]at hR;have HQ:=S hR;have HBk:=S hB;have HE:=S hE;have HTk:=S hok;have HSh:=S hl;have HGl:=S (X hg hgb);have HZ:=S (X (Blk.new w (stC 0 (.slice none 0 0)) 134) (show w.grownBy (w.alloc (.cells (stC 0 (.slice none 0 0)).toArray 134 (0,0))) (some b)from Ac (Aa _ _) _));have hp:=h.alloc (.cells (stC 0 (.slice none 0 0)).toArray 134 (0,0));clear hB hE hok hl hg hgb h ho hR;go_enter func326,ntmps326;go_wp2_with fail;refine(B7 hp HSh.1).mono ?_;intro e w1 hq;obtain⟨g,⟨q,hr,rfl⟩| ⟨s,i1,v,hr,rfl,rfl,hp9⟩⟩:=hq.split
 ·exact⟨rfl,Post.bad (Z HZ.1.2 g) (by rw[<-HQ.1,hr];rfl)⟩
 replace HZ:=S (X (HZ.1.1.gb g (by simp;omega)) (Z HZ.1.2 g));replace hp:=hp9;clear hp9;rw[hr,Res.bind_ok]at HQ;clear hr;have hs1:=g.size;simp at hs1;have HK:=S (KA.start (o:=5) HZ.1.1 HZ.1.2 hb (by omega) s);have hp3:=hp.alloc (.cells #[.int .i64 5,str s,str [],.slice none 0 0,.slice none 0 0,.slice none 0 0,.int .i64 0,.slice none 0 0,.slice none 0 0,.slice none 0 0] 134 (0,0));replace hp:=hp3;clear g hp3 HZ;rw[Rd.want_f]at HQ;go_wp2_with fail;refine(CM hp [61]).mono ?_;intro e w2 hq;obtain⟨g,⟨q,hr,rfl⟩| ⟨u,i2,v,hr,rfl,rfl,hp9⟩⟩:=hq.split
 ·exact⟨rfl,Post.bad (Z HK.1.gr g) (by rw[<-HQ.1,hr];rfl)⟩
 replace HK:=S (HK.1.gb g);replace hp:=hp9;clear hp9;rw[hr,Res.bind_ok]at HQ;clear hr g;generalize hL:w1.heap.size=L at*;clear hL;rw[Rd.expr_f]at HQ;have hkl:=HK.1.lt;have hx4:=HK.1.blk.cell' 4 rfl;cases hr6:Ak l day n i2 with
 |out=>exact absurd (by rw[<-HQ.1,hr6];rfl) HO.1
 | bad q6=>
   go_wp2_with fail;go_region_with(go_at_call 208;refine(HE.1 _ _ (hp.gbN (Ad (Aa _ none))) (by rw[hr6];simp)).mono ?_;rintro e w6 hq6;rw[hr6]at hq6;obtain⟨g6,rfl⟩:=hq6;refine Bt (P:=Tryz.prog) ⟨rfl,Post.bad (Z (Ad HK.1.gr) g6) (by rw[<-HQ.1,hr6];rfl)⟩ ⟨#[],[]⟩ w6 ?_);all_goals trivial
 |ok x i3=>
 rw[hr6,Res.bind_ok,Rd.must_f]at HQ;go_upto_region 3 with fail;go_cut []from 5 (λwx=>(∃xv',KA b w L wx 5 s [] [] (.one x) .nil (.slice none 0 0) xv' (.slice none 0 0))/\Par wx b tv wo l wordsL i3)
 case first=>
  obtain⟨i0,hi0,hz0,hz1,hz2⟩:=info_parts CJ;have HI:=S (X hi0 (X hz0 (X hz1 hz2)));have hroom:=(show(Fo.nil).len<=5 by simp[Fo.len]);have hbL:=HK.1.bL;have hwL:=HK.1.wL;clear hi0 hz0 hz1 hz2;go_region_law(first
   | (refine step_append_lies _ (by rfl) _ _ 129 (by rfl) (w.heap.size+1) 163 i0 _ 7 104 underlying129 HI.1.1 HI.1.2.1 HI.1.2.2.1 HI.1.2.2.2 rfl (by decide) _ _ cs6 (by rfl) HB.1.2.1 ⟨w6.heap.size,0,none⟩ 1 1 (hdC (x).h (.slice pa6 (x).h.p.length pc6) (.slice la6 (x).kids.len lc6)) (by rfl) rfl (AP _ _ _) (by simp[hdC,Value.oneCell']) (by decide) (by unfold maxLen;omega) (by omega) (by simp<;>omega) _ rfl ?_;intro j cap w7 hown hgrow hat hlt;(have HK8:=S (X (HB.1.1.addX' HB.1.2.1 HB.1.2.2.1 HB.1.2.2.2.1 HB.1.2.2.2.2.1 (λq hq=>HK.1.fresh q hq) hown hgrow hat) (Par.app HB.1.2.2.2.2.2 hgrow (λq hq=>(HB.1.1.belowX q hq).1) hbL 4 (.slice (some ⟨j,0,none⟩) ((Fo.nil).len+1) cap))));(have hb7:=HB.1.1.blk.gb hgrow HB.1.1.neX);(have f7:=hb7.frozen 4);(have d7:=hb7.cell' 4 rfl);(have l7:=hb7.lt);clear hown hgrow hat hb7 HB)
   | (go_simp;go_at_call 208;refine(HE.1 _ _ (hp.drewN 1) (by rw[hr6];simp)).mono ?_;rintro e w6 hq6;rw[hr6]at hq6;obtain⟨g6,v,rfl,⟨pa6,pc6,la6,lc6,rfl,q1,q2⟩,h6⟩:=hq6;(have k6:=HK.1.gb (Z (Ad (Aa _ _)) g6));(have l6:=k6.lt);(have d6:=k6.blk.cell' 4 rfl);(have s6:=g6.size);(have k7:=k6.alloc (.cells (hdC (x).h (.slice pa6 (x).h.p.length pc6) (.slice la6 (x).kids.len lc6)).toArray 163 (0,0)));(obtain⟨cs6,ho6,hr7⟩:=k7.x);(have gA:=gZ w6 (.cells (hdC (x).h (.slice pa6 (x).h.p.length pc6) (.slice la6 (x).kids.len lc6)).toArray 163 (0,0)) none);(have HB:=S (X k7 (X ho6 (X hr7 (X (q1.gb gA (by simp)) (X (q2.gb gA (by simp)) (h6.alloc (.cells (hdC (x).h (.slice pa6 (x).h.p.length pc6) (.slice la6 (x).kids.len lc6)).toArray 163 (0,0)))))))));clear k6 k7 ho6 hr7 q1 q2 h6 gA g6))
  all_goals
   go_wp2_with fail;go_meet
   case rel=>exact⟨⟨_,HK8.1.1⟩,HK8.1.2⟩
 case rest=>
 obtain⟨⟨xv',hK⟩,hp1⟩:=hcut;replace HK:=S hK;replace hp:=hp1;clear hK hp1 hx4 hr6;have hkl:=HK.1.lt;go_wp2_with fail;refine(BK hp HTk.1 wTO (by decide)).mono ?_;intro e w4 hq;obtain⟨g,⟨q,hr,rfl⟩| ⟨u,i4,v,hr,rfl,rfl,hp9⟩⟩:=hq.split
 ·exact⟨rfl,Post.bad (Z HK.1.gr g) (by rw[<-HQ.1,hr];rfl)⟩
 replace HK:=S (HK.1.gb g);replace hp:=hp9;clear hp9;rw[hr,Res.bind_ok]at HQ;clear hr g;rw[Rd.expr_f]at HQ;have hkl:=HK.1.lt;have hx4:=HK.1.blk.cell' 4 rfl;cases hr6:Ak l day n i4 with
 |out=>exact absurd (by rw[<-HQ.1,hr6];rfl) HO.1
 | bad q6=>
   go_wp2_with fail;go_region_with(go_at_call 208;refine(HE.1 _ _ (hp.gbN (Ad (Aa _ none))) (by rw[hr6];simp)).mono ?_;rintro e w6 hq6;rw[hr6]at hq6;obtain⟨g6,rfl⟩:=hq6;refine Bt (P:=Tryz.prog) ⟨rfl,Post.bad (Z (Ad HK.1.gr) g6) (by rw[<-HQ.1,hr6];rfl)⟩ ⟨#[],[]⟩ w6 ?_);all_goals trivial
 |ok y i5=>
 rw[hr6,Res.bind_ok,Rd.bind_f,Rd.ifw_f]at HQ;go_upto_region 5 with fail;go_cut []from 5 (λwx=>(∃xv',KA b w L wx 5 s [] [] ((Fo.one x).snoc y) .nil (.slice none 0 0) xv' (.slice none 0 0))/\Par wx b tv wo l wordsL i5)
 case first=>
  obtain⟨i0,hi0,hz0,hz1,hz2⟩:=info_parts CJ;have HI:=S (X hi0 (X hz0 (X hz1 hz2)));have hroom:=(show(Fo.one x).len<=5 by simp[Fo.one,Ex.fo,Fo.len]);have hbL:=HK.1.bL;have hwL:=HK.1.wL;clear hi0 hz0 hz1 hz2;go_region_law(first
   | (refine step_append_lies _ (by rfl) _ _ 129 (by rfl) (w.heap.size+1) 163 i0 _ 7 104 underlying129 HI.1.1 HI.1.2.1 HI.1.2.2.1 HI.1.2.2.2 rfl (by decide) _ _ cs6 (by rfl) HB.1.2.1 ⟨w6.heap.size,0,none⟩ 1 1 (hdC (y).h (.slice pa6 (y).h.p.length pc6) (.slice la6 (y).kids.len lc6)) (by rfl) rfl (AP _ _ _) (by simp[hdC,Value.oneCell']) (by decide) (by unfold maxLen;omega) (by omega) (by simp<;>omega) _ rfl ?_;intro j cap w7 hown hgrow hat hlt;(have HK8:=S (X (HB.1.1.addX' HB.1.2.1 HB.1.2.2.1 HB.1.2.2.2.1 HB.1.2.2.2.2.1 (λq hq=>HK.1.fresh q hq) hown hgrow hat) (Par.app HB.1.2.2.2.2.2 hgrow (λq hq=>(HB.1.1.belowX q hq).1) hbL 4 (.slice (some ⟨j,0,none⟩) ((Fo.one x).len+1) cap))));(have hb7:=HB.1.1.blk.gb hgrow HB.1.1.neX);(have f7:=hb7.frozen 4);(have d7:=hb7.cell' 4 rfl);(have l7:=hb7.lt);clear hown hgrow hat hb7 HB)
   | (go_simp;go_at_call 208;refine(HE.1 _ _ (hp.drewN 1) (by rw[hr6];simp)).mono ?_;rintro e w6 hq6;rw[hr6]at hq6;obtain⟨g6,v,rfl,⟨pa6,pc6,la6,lc6,rfl,q1,q2⟩,h6⟩:=hq6;(have k6:=HK.1.gb (Z (Ad (Aa _ _)) g6));(have l6:=k6.lt);(have d6:=k6.blk.cell' 4 rfl);(have s6:=g6.size);(have k7:=k6.alloc (.cells (hdC (y).h (.slice pa6 (y).h.p.length pc6) (.slice la6 (y).kids.len lc6)).toArray 163 (0,0)));(obtain⟨cs6,ho6,hr7⟩:=k7.x);(have gA:=gZ w6 (.cells (hdC (y).h (.slice pa6 (y).h.p.length pc6) (.slice la6 (y).kids.len lc6)).toArray 163 (0,0)) none);(have HB:=S (X k7 (X ho6 (X hr7 (X (q1.gb gA (by simp)) (X (q2.gb gA (by simp)) (h6.alloc (.cells (hdC (y).h (.slice pa6 (y).h.p.length pc6) (.slice la6 (y).kids.len lc6)).toArray 163 (0,0)))))))));clear k6 k7 ho6 hr7 q1 q2 h6 gA g6))
  all_goals
   go_wp2_with fail;go_meet
   case rel=>exact⟨⟨_,HK8.1.1⟩,HK8.1.2⟩
 case rest=>
 obtain⟨⟨xv2,hK⟩,hp1⟩:=hcut;replace HK:=S hK;replace hp:=hp1;clear hK hp1 hx4 hr6;have hkl:=HK.1.lt;have hm2:((Fo.one x).snoc y).len<=5:=by simp[Fo.len_snoc,Fo.one,Ex.fo,Fo.len]
 go_wp2_with fail;refine mR (Ys _) λw6 g6=>?_;have hKA6:=HK.1.gb (Ao g6);have hp6:=hp.gbN g6;have hs6:=g6.size;have gZ:=gZ w6 (.cells (hdC (A7 2 1 []).h (.slice none 0 0) (.slice none 0 0)).toArray 163 (0,0)) none;have HF:=S (λq hq=>hKA6.fresh q hq);have HZk:=S (KE.new (x:=A7 2 1 []) (ok:=An w6.heap.size) (Cells.nil w6 1 (λ_=>False)) (RepL.nil w6 (λ_=>False)) (λq hq _=>hq.elim));have HK0:=S (X hKA6 gZ);have hbl6:=hp6.lt;replace HK:=S (hKA6.gb (Ao gZ));replace hp:=hp6.gbN gZ;clear g6 hKA6 hp6 gZ;have hkl:=HK.1.lt;cases hw:As l wordsL i5==JD
 case' false=>
  go_wp2_with fail;refine mR (Dh hp HTk.1 JD hw) λw7 g=>?_;replace HK:=S (HK.1.gb (Ao g));have HXk:=S (HZk.1.gbN g);replace hp:=hp.gbN g;clear g HZk;rw[if_neg (nF hw)]at HQ;clear hw;rw[Rd.pure_f,Res.bind_ok]at HQ;obtain⟨i0,hi0,hz0,hz1,hz2⟩:=info_parts CJ;have HI:=S (X hi0 (X hz0 (X hz1 hz2)));have hbL:=HK.1.bL;have hwL:=HK.1.wL;have hkl:=HK.1.lt;clear hi0 hz0 hz1 hz2;have hx4:=HK.1.blk.cell' 4 rfl;have hcx:=HXk.1.blk;obtain⟨cx_0,cx_1,cx_2,cx_3,cx_4,cx_5,cx_6,cx_f⟩:=(hcx).c7;have hlx:=hcx.lt;have gA:=gZ w7 (.cells (hdC ((A7 2 1 [])).h (.slice none ((A7 2 1 [])).h.p.length 0) (.slice none ((A7 2 1 [])).kids.len 0)).toArray 163 (0,0)) none;have k7:=HK.1.alloc (.cells (hdC ((A7 2 1 [])).h (.slice none ((A7 2 1 [])).h.p.length 0) (.slice none ((A7 2 1 [])).kids.len 0)).toArray 163 (0,0));obtain⟨cs6,ho6,hr7⟩:=k7.x;have HB:=S (X k7 (X ho6 (X hr7 (X (HXk.1.rp.gb gA (by simp)) (X (HXk.1.rl.gb gA (by simp)) (hp.alloc (.cells (hdC ((A7 2 1 [])).h (.slice none ((A7 2 1 [])).h.p.length 0) (.slice none ((A7 2 1 [])).kids.len 0)).toArray 163 (0,0))))))));clear k7 ho6 hr7 gA hcx;go_wp2_with (at_builtin;refine wpList_append_lies _ rfl _ _ 129 rfl (w.heap.size+1) 163 i0 _ 7 104 underlying129 HI.1.1 HI.1.2.1 HI.1.2.2.1 HI.1.2.2.2 rfl (by decide) _ _ cs6 rfl HB.1.2.1 ⟨(w7).heap.size,0,none⟩ 1 1 (hdC ((A7 2 1 [])).h (.slice none ((A7 2 1 [])).h.p.length 0) (.slice none ((A7 2 1 [])).kids.len 0)) rfl rfl (AP _ _ _) (by simp[hdC,Value.oneCell']) (by decide) (by unfold maxLen;omega) (by omega) (by simp;omega) _ rfl ?_;intro j cap w7 hown hgrow hat hlt;(have HK8:=S (X (HB.1.1.addX' HB.1.2.1 HB.1.2.2.1 HB.1.2.2.2.1 HB.1.2.2.2.2.1 HF.1 hown hgrow hat) (Par.app HB.1.2.2.2.2.2 hgrow (λq hq=>(HB.1.1.belowX q hq).1) hbL 4 (.slice (some ⟨j,0,none⟩) (((Fo.one x).snoc y).len+1) cap))));(have hb7:=HB.1.1.blk.gb hgrow HB.1.1.neX);(have f7:=hb7.frozen 4);(have d7:=hb7.cell' 4 rfl);(have l7:=hb7.lt);clear hown hgrow hat hb7 HB)
 case' true=>
  go_wp2_with fail;refine(Dj hp HTk.1 JD (by decide) hw).mono ?_;rintro e w7 ⟨rfl,hp9,g⟩;replace HZk:=S (HZk.1.gb g (by simp;omega) (λq hq _ e=>by cases e;have:w6.heap.size<=b:=hq;omega));have G9:=Z (Ao HK0.1.2) g;have hK7:=HK.1.gb g;have hkl7:=hK7.lt;have hbL:=hK7.bL;have hwL:=hK7.wL;replace hp:=hp9;rw[if_pos hw]at HQ;have hl7:=HZk.1.blk.lt;clear g hp9 hw hK7 HK;have HG9:=S G9;go_wp2_with fail;refine(HE.1 _ _ hp (λe=>HO.1 (by rw[<-HQ.1];show Res.bind (Ak l day n _) _=_;rw[e];rfl))).mono ?_;intro e w8 hq;obtain⟨g8,⟨q,hr,rfl⟩| ⟨z,i8,v,hr,rfl,⟨pe,pf,le,lf,rfl,rp,rl⟩,h8⟩⟩:=hq.split
  ·exact⟨rfl,Post.bad (Z HK0.1.1.gr (Z HG9.1 g8)) (by rw[<-HQ.1];show Res.bind (Ak l day n _) _=_;rw[hr];rfl)⟩
  have e0:Res.bind (Ak l day n (i5+1)) _=R:=HQ.1;rw[hr,Res.bind_ok]at e0;replace HQ:=S e0;clear e0 hr;have hs8:=g8.size;have hZ8:=HZk.1.gb g8 (by simp;omega) (λq hq _ e=>by cases e;have:w6.heap.size<=b:=hq;omega);have hcz:=hZ8.blk;obtain⟨dz_0,dz_1,dz_2,dz_3,dz_4,dz_5,dz_6,dz_f⟩:=(hcz).c7;have hlz:=hcz.lt;have g11:=A2 w8 w6.heap.size (.int .i64 z.h.op) (str z.h.s) (.int .i64 z.h.vk) (.int .i64 z.h.vn) (str z.h.vs) (.slice pe z.h.p.length pf) (.slice le z.kids.len lf);have hK11:=HK0.1.1.gb (Aq (Z G9 g8) g11 (.inr (nR _)));have hZ11:=(hZ8.put (y:=z) rp rl (λq hq _=>by have h1:w7.heap.size<=q:=hq;omega)).mono (ok':=An w6.heap.size) (λq hq _=>by have h1:w7.heap.size<=q:=hq;show w6.heap.size<=q;omega);have hp11:=h8.gb g11 (by intro q e;cases e;omega);simp only[set7]at hK11 hZ11 hp11;have HK:=S hK11;have HXk:=S hZ11;have HP11:=S hp11;clear g11 hZ8 rp rl g8 G9 h8 hcz hK11 hZ11 hp11 HZk hp;go_upto_region 9 with fail;clear dz_0 dz_1 dz_2 dz_3 dz_4 dz_5 dz_6 dz_f hlz;generalize(((((((w8.setCell {block:=w6.heap.size,off:=0} (.int .i64 z.h.op)).setCell {block:=w6.heap.size,off:=1} (.string {data:=List.toArray z.h.s})).setCell {block:=w6.heap.size,off:=2} (.int .i64 z.h.vk)).setCell {block:=w6.heap.size,off:=3} (.int .i64 z.h.vn)).setCell {block:=w6.heap.size,off:=4} (.string {data:=List.toArray z.h.vs})).setCell {block:=w6.heap.size,off:=5} (.slice pe z.h.p.length pf)).setCell {block:=w6.heap.size,off:=6} (.slice le z.kids.len lf))=W9 at*;have hp:=HP11.1;clear HP11;obtain⟨i0,hi0,hz0,hz1,hz2⟩:=info_parts CJ;have HI:=S (X hi0 (X hz0 (X hz1 hz2)));have hbL:=HK.1.bL;have hwL:=HK.1.wL;have hkl:=HK.1.lt;clear hi0 hz0 hz1 hz2;have hx4:=HK.1.blk.cell' 4 rfl;have hcx:=HXk.1.blk;obtain⟨cx_0,cx_1,cx_2,cx_3,cx_4,cx_5,cx_6,cx_f⟩:=(hcx).c7;have hlx:=hcx.lt;have gA:=gZ W9 (.cells (hdC (z).h (.slice pe (z).h.p.length pf) (.slice le (z).kids.len lf)).toArray 163 (0,0)) none;have k7:=HK.1.alloc (.cells (hdC (z).h (.slice pe (z).h.p.length pf) (.slice le (z).kids.len lf)).toArray 163 (0,0));obtain⟨cs6,ho6,hr7⟩:=k7.x;have HB:=S (X k7 (X ho6 (X hr7 (X (HXk.1.rp.gb gA (by simp)) (X (HXk.1.rl.gb gA (by simp)) (hp.alloc (.cells (hdC (z).h (.slice pe (z).h.p.length pf) (.slice le (z).kids.len lf)).toArray 163 (0,0))))))));clear k7 ho6 hr7 gA hcx;go_wp2_with (at_builtin;refine wpList_append_lies _ rfl _ _ 129 rfl (w.heap.size+1) 163 i0 _ 7 104 underlying129 HI.1.1 HI.1.2.1 HI.1.2.2.1 HI.1.2.2.2 rfl (by decide) _ _ cs6 rfl HB.1.2.1 ⟨(W9).heap.size,0,none⟩ 1 1 (hdC (z).h (.slice pe (z).h.p.length pf) (.slice le (z).kids.len lf)) rfl rfl (AP _ _ _) (by simp[hdC,Value.oneCell']) (by decide) (by unfold maxLen;omega) (by omega) (by simp;omega) _ rfl ?_;intro j cap w7 hown hgrow hat hlt;(have HK8:=S (X (HB.1.1.addX' HB.1.2.1 HB.1.2.2.1 HB.1.2.2.2.1 HB.1.2.2.2.2.1 HF.1 hown hgrow hat) (Par.app HB.1.2.2.2.2.2 hgrow (λq hq=>(HB.1.1.belowX q hq).1) hbL 4 (.slice (some ⟨j,0,none⟩) (((Fo.one x).snoc y).len+1) cap))));(have hb7:=HB.1.1.blk.gb hgrow HB.1.1.neX);(have f7:=hb7.frozen 4);(have d7:=hb7.cell' 4 rfl);(have l7:=hb7.lt);clear hown hgrow hat hb7 HB)
 all_goals
  generalize hWW:World.setCell _ _ _=W11 at*;have HK:=S HK8.1.1;have hp:=HK8.1.2;clear HK8 d7 f7 l7 hx4 cx_0 cx_1 cx_2 cx_3 cx_4 cx_5 cx_6 cx_f hlx HXk HF;replace HK:=S HK.1.toKS;rw[Rd.fin_f]at HQ;go_wp2_with fail;refine(AY hp).mono ?_;intro e w12 hq;obtain⟨g,⟨q,hr,rfl⟩| ⟨u,i12,v,hr,rfl,rfl,hp9⟩⟩:=hq.split
  ·exact⟨rfl,Post.bad (Z HK.1.gr g) (by rw[<-HQ.1,hr];rfl)⟩
  replace HK:=S (HK.1.gb g);replace hp:=hp9;clear hp9;rw[hr,Res.bind_ok]at HQ;clear hr g;rw[Rd.bind_f]at HQ;have hkl:=HK.1.lt;have hbL:=HK.1.bw;have hwL:=HK.1.wL;go_wp2_with fail;refine(HBk.1 _ _ (BW HGl.1.1 HGl.1.2 HK.1.gr) hp (λe=>HO.1 (by rw[<-HQ.1,e];rfl))).mono ?_;intro e w13 hq;obtain⟨g,⟨q,hr,rfl⟩| ⟨c,i13,v,hr,rfl,⟨kcs,⟨ca,cc,rfl,k1⟩,k2⟩,hp9⟩⟩:=hq.split
  ·exact⟨rfl,Post.bad (Z HK.1.gr g) (by rw[<-HQ.1,hr];rfl)⟩
  replace HK:=S (HK.1.gb g);replace hp:=hp9;clear hp9;rw[hr,Res.bind_ok]at HQ;clear hr;have hkl:=HK.1.lt;have hx5:=HK.1.blk.cell' 5 rfl;have hf5:=HK.1.blk.frozen 5;have hK2:=HK.1.layB (c:=c) (ca:=ca) (cc:=cc) (RepV.mono' (ok':=but w L) ⟨kcs,⟨ca,cc,rfl,k1⟩,k2⟩ (λq hq _=>by have h1:w12.heap.size<=q:=hq;exact⟨by omega,by omega⟩));have hp2:=(hp.set (L:=L) (by omega) 5 (.slice (some ⟨w13.heap.size,0,none⟩) 1 1)).alloc (.cells #[.slice ca c.len cc] 38 (0,0));replace HK:=S hK2;replace hp:=hp2;clear hK2 hp2 k1 k2 g;rw[Rd.must_f]at HQ;go_wp2_with fail;refine(BK hp HTk.1 BN (by decide)).mono ?_;intro e w14 hq;obtain⟨g,⟨q,hr,rfl⟩| ⟨u,i14,v,hr,rfl,rfl,hp9⟩⟩:=hq.split
  ·exact⟨rfl,Post.bad (Z HK.1.gr g) (by rw[<-HQ.1,hr];rfl)⟩
  replace HK:=S (HK.1.gb g);replace hp:=hp9;clear hp9;rw[hr,Res.bind_ok]at HQ;clear hr g;rw[Rd.fin_f]at HQ;go_wp2_with fail;refine(AY hp).mono ?_;intro e w15 hq;obtain⟨g,⟨q,hr,rfl⟩| ⟨u,i15,v,hr,rfl,rfl,hp9⟩⟩:=hq.split
  ·exact⟨rfl,Post.bad (Z HK.1.gr g) (by rw[<-HQ.1,hr];rfl)⟩
  replace HK:=S (HK.1.gb g);replace hp:=hp9;clear hp9;rw[hr,Res.bind_ok]at HQ;clear hr g;rw[Rd.pure_f]at HQ;obtain⟨pa9,xa9,ba9,na9,fa9,wa9,pc9,xc9,bc9,nc9,fc9,wc9,e91,e92,e93,e94,e95,e96⟩:=HK.1.shapes;(first|cases e91|clear e91);(first|cases e92|clear e92);(first|cases e93|clear e93);(first|cases e94|clear e94);(first|cases e95|clear e95);(first|cases e96|clear e96);have hkb:=HK.1.blk;have hkz:=HK.1.zero;have hkl:=hkb.lt;have hkl2:=hkz.lt;have ck_:=hkb.c10;have cz_:=hkz.c10;clear hkb hkz;go_wp2;have hres9:=C1 HK.1 hp HQ.1.symm;have hblk9:=HK.1.out.2.2.1;refine bZ ?hr9 rfl hres9
  case hr9=>exact A8 rfl _ hblk9 rfl rfl
end
variable{w:World}{n:Nat}
def VaH(w:World)(h:Hd)(pa la:Option Addr)(pc n lc:Nat):Prop:=
 (∀W,w.grownBy W none->Calls Tryz.prog 122 #[.slice la n lc] W (ρ W (.bool true)))/\
 (∀W,w.grownBy W none->Calls Tryz.prog 61 #[str h.s] W (ρ W (.bool (Ay h.s))))/\
 (∀W,w.grownBy W none->Calls Tryz.prog 218 #[.agg #[.int .i64 h.vk,.int .i64 h.vn,str h.vs]] W (ρ W (.bool (A9 h))))/\
 (∀W,w.grownBy W none->Calls Tryz.prog 219 #[str h.s] W (ρ W (.bool (opsL.contains h.s))))/\
 (∀W,w.grownBy W none->Calls Tryz.prog 62 #[.slice pa h.p.length pc] W (ρ W (.bool (h.p.all Ay))))
section
variable {s vs:Bs}{p:List Bs}{vk vn:Int}{pa la:Option Addr}{pc lc:Nat}
def Wp(H:Hid (VaH w ⟨0,s,vk,vn,vs,[]⟩ pa la pc n lc)):
 Calls Tryz.prog 170 #[exV ⟨0,s,vk,vn,vs,[]⟩ (.slice pa (List.length ([]:List Bs)) pc) (.slice la n lc)] w (ρ w (.bool (A1 ⟨0,s,vk,vn,vs,[]⟩ n))):=by
 go_enter func170,ntmps170;go_wp2_with fail;refine(H.1.1 _ ?gg).mono ?_
 case gg=>exact(Ac (Ac (Aa _ _) _) _)
 rintro e w5 ⟨rfl,g5⟩;have hb5:=((Blk.new w (hdC ⟨0,s,vk,vn,vs,[]⟩ (.slice pa ([]:List Bs).length pc) (.slice la n lc)) 163).alloc (.cells #[.int .i64 0,.int .i64 0,.string ⟨#[]⟩] 161 (0,0))).gb g5 (by simp);have x_:=hb5.c7;simp only at x_;have HB:=S hb5;have HG:=S (Z (Ac (gZ w (.cells (hdC ⟨0,s,vk,vn,vs,[]⟩ (.slice pa ([]:List Bs).length pc) (.slice la n lc)).toArray 163 (0,0)) none) (.cells #[.int .i64 0,.int .i64 0,.string ⟨#[]⟩] 161 (0,0))) g5);clear g5 hb5;have HM:=S (show A1 ⟨0,s,vk,vn,vs,[]⟩ n=(s.isEmpty&&n==0&&A9 ⟨0,s,vk,vn,vs,[]⟩)from rfl);by_cases hs:s=[]
 ·have hsI:(s==[])=true:=by simpa using hs
  by_cases hn:n=0
  ·have hnI:((n:Int)==0)=true:=by simp;omega
   have HF:=S (show A1 ⟨0,s,vk,vn,vs,[]⟩ n=A9 ⟨0,s,vk,vn,vs,[]⟩by rw[HM.1];simp[hs,hn]);clear HM hs hn;have H3:=S H.1.2.2.1;simp only at H3;go_wp2_with fail;refine mR (H3.1 _ HG.1) λw6 g6=>?_;go_wp2;go_ret;exact⟨by rw[HF.1];rfl,Z HG.1 g6⟩
  ·have hnI:((n:Int)==0)=false:=by simp;omega
   have HF:=S (show A1 ⟨0,s,vk,vn,vs,[]⟩ n=false by rw[HM.1];simp[hn]);clear HM hs hn;go_wp2;go_ret;exact⟨by rw[HF.1];rfl,HG.1⟩
 ·have hsI:(s==[])=false:=by simpa using hs
  have HF:=S (show A1 ⟨0,s,vk,vn,vs,[]⟩ n=false by rw[HM.1];simp[hs]);clear HM hs;go_wp2;go_ret;exact⟨by rw[HF.1];rfl,HG.1⟩
def Wq(H:Hid (VaH w ⟨1,s,0,0,[],[]⟩ pa la pc n lc)):
 Calls Tryz.prog 170 #[exV ⟨1,s,0,0,[],[]⟩ (.slice pa (List.length ([]:List Bs)) pc) (.slice la n lc)] w (ρ w (.bool (A1 ⟨1,s,0,0,[],[]⟩ n))):=by
 go_enter func170,ntmps170;go_wp2_with fail;refine(H.1.1 _ ?gg).mono ?_
 case gg=>exact(Ac (Ac (Aa _ _) _) _)
 rintro e w5 ⟨rfl,g5⟩;have hb5:=((Blk.new w (hdC ⟨1,s,0,0,[],[]⟩ (.slice pa ([]:List Bs).length pc) (.slice la n lc)) 163).alloc (.cells #[.int .i64 0,.int .i64 0,.string ⟨#[]⟩] 161 (0,0))).gb g5 (by simp);have x_:=hb5.c7;simp only at x_;have HB:=S hb5;have HG:=S (Z (Ac (gZ w (.cells (hdC ⟨1,s,0,0,[],[]⟩ (.slice pa ([]:List Bs).length pc) (.slice la n lc)).toArray 163 (0,0)) none) (.cells #[.int .i64 0,.int .i64 0,.string ⟨#[]⟩] 161 (0,0))) g5);clear g5 hb5;have HM:=S (show A1 ⟨1,s,0,0,[],[]⟩ n=(Ay s&&n==0)from rfl);have H3:=S H.1.2.1;simp only at H3;cases hb:Ay s with
 | true=>
   have HF:=S (show A1 ⟨1,s,0,0,[],[]⟩ n=((n:Int)==0)by rw[HM.1,hb,Bool.true_and,Bool.eq_iff_iff];first| (simp;done)| (simp;omega));rw[hb]at H3;clear HM hb;go_wp2_with fail;refine mR (H3.1 _ HG.1) λw6 g6=>?_;have hb6:=HB.1.gb g6 (by simp);have y_:=hb6.c7;simp only at y_;have HG6:=S (Z HG.1 g6);clear g6 hb6;go_wp2;go_ret;exact⟨by rw[HF.1];rfl,HG6.1⟩
 | false=>
   have HF:=S (show A1 ⟨1,s,0,0,[],[]⟩ n=false by rw[HM.1,hb];rfl);rw[hb]at H3;clear HM hb;go_wp2_with fail;refine mR (H3.1 _ HG.1) λw6 g6=>?_;go_wp2;go_ret;exact⟨by rw[HF.1];rfl,Z HG.1 g6⟩
def UJ(H:Hid (VaH w ⟨10,s,0,0,[],[]⟩ pa la pc n lc)):
 Calls Tryz.prog 170 #[exV ⟨10,s,0,0,[],[]⟩ (.slice pa (List.length ([]:List Bs)) pc) (.slice la n lc)] w (ρ w (.bool (A1 ⟨10,s,0,0,[],[]⟩ n))):=by
 go_enter func170,ntmps170;go_wp2_with fail;refine(H.1.1 _ ?gg).mono ?_
 case gg=>exact(Ac (Ac (Aa _ _) _) _)
 rintro e w5 ⟨rfl,g5⟩;have hb5:=((Blk.new w (hdC ⟨10,s,0,0,[],[]⟩ (.slice pa ([]:List Bs).length pc) (.slice la n lc)) 163).alloc (.cells #[.int .i64 0,.int .i64 0,.string ⟨#[]⟩] 161 (0,0))).gb g5 (by simp);have x_:=hb5.c7;simp only at x_;have HB:=S hb5;have HG:=S (Z (Ac (gZ w (.cells (hdC ⟨10,s,0,0,[],[]⟩ (.slice pa ([]:List Bs).length pc) (.slice la n lc)).toArray 163 (0,0)) none) (.cells #[.int .i64 0,.int .i64 0,.string ⟨#[]⟩] 161 (0,0))) g5);clear g5 hb5;have HM:=S (show A1 ⟨10,s,0,0,[],[]⟩ n=(Ay s&&n==0)from rfl);have H3:=S H.1.2.1;simp only at H3;cases hb:Ay s with
 | true=>
   have HF:=S (show A1 ⟨10,s,0,0,[],[]⟩ n=((n:Int)==0)by rw[HM.1,hb,Bool.true_and,Bool.eq_iff_iff];first| (simp;done)| (simp;omega));rw[hb]at H3;clear HM hb;go_wp2_with fail;refine mR (H3.1 _ HG.1) λw6 g6=>?_;have hb6:=HB.1.gb g6 (by simp);have y_:=hb6.c7;simp only at y_;have HG6:=S (Z HG.1 g6);clear g6 hb6;go_wp2;go_ret;exact⟨by rw[HF.1];rfl,HG6.1⟩
 | false=>
   have HF:=S (show A1 ⟨10,s,0,0,[],[]⟩ n=false by rw[HM.1,hb];rfl);rw[hb]at H3;clear HM hb;go_wp2_with fail;refine mR (H3.1 _ HG.1) λw6 g6=>?_;go_wp2;go_ret;exact⟨by rw[HF.1];rfl,Z HG.1 g6⟩
def Xt(H:Hid (VaH w ⟨2,s,0,0,[],[]⟩ pa la pc n lc)):
 Calls Tryz.prog 170 #[exV ⟨2,s,0,0,[],[]⟩ (.slice pa (List.length ([]:List Bs)) pc) (.slice la n lc)] w (ρ w (.bool (A1 ⟨2,s,0,0,[],[]⟩ n))):=by
 go_enter func170,ntmps170;go_wp2_with fail;refine(H.1.1 _ ?gg).mono ?_
 case gg=>exact(Ac (Ac (Aa _ _) _) _)
 rintro e w5 ⟨rfl,g5⟩;have hb5:=((Blk.new w (hdC ⟨2,s,0,0,[],[]⟩ (.slice pa ([]:List Bs).length pc) (.slice la n lc)) 163).alloc (.cells #[.int .i64 0,.int .i64 0,.string ⟨#[]⟩] 161 (0,0))).gb g5 (by simp);have x_:=hb5.c7;simp only at x_;have HB:=S hb5;have HG:=S (Z (Ac (gZ w (.cells (hdC ⟨2,s,0,0,[],[]⟩ (.slice pa ([]:List Bs).length pc) (.slice la n lc)).toArray 163 (0,0)) none) (.cells #[.int .i64 0,.int .i64 0,.string ⟨#[]⟩] 161 (0,0))) g5);clear g5 hb5;have HM:=S (show A1 ⟨2,s,0,0,[],[]⟩ n=(Ay s&&n==1)from rfl);have H3:=S H.1.2.1;simp only at H3;cases hb:Ay s with
 | true=>
   have HF:=S (show A1 ⟨2,s,0,0,[],[]⟩ n=((n:Int)==1)by rw[HM.1,hb,Bool.true_and,Bool.eq_iff_iff];first| (simp;done)| (simp;omega));rw[hb]at H3;clear HM hb;go_wp2_with fail;refine mR (H3.1 _ HG.1) λw6 g6=>?_;have hb6:=HB.1.gb g6 (by simp);have y_:=hb6.c7;simp only at y_;have HG6:=S (Z HG.1 g6);clear g6 hb6;go_wp2;go_ret;exact⟨by rw[HF.1];rfl,HG6.1⟩
 | false=>
   have HF:=S (show A1 ⟨2,s,0,0,[],[]⟩ n=false by rw[HM.1,hb];rfl);rw[hb]at H3;clear HM hb;go_wp2_with fail;refine mR (H3.1 _ HG.1) λw6 g6=>?_;go_wp2;go_ret;exact⟨by rw[HF.1];rfl,Z HG.1 g6⟩
def Xu(H:Hid (VaH w ⟨3,s,0,0,[],[]⟩ pa la pc n lc)):
 Calls Tryz.prog 170 #[exV ⟨3,s,0,0,[],[]⟩ (.slice pa (List.length ([]:List Bs)) pc) (.slice la n lc)] w (ρ w (.bool (A1 ⟨3,s,0,0,[],[]⟩ n))):=by
 have HM:=S (show A1 ⟨3,s,0,0,[],[]⟩ n=Ay s from rfl);rw[HM.1];clear HM;have H3:=S H.1.2.1;simp only at H3;generalize Ay s=b at*;go_enter func170,ntmps170;go_wp2_with fail;refine(H.1.1 _ ?gg).mono ?_
 case gg=>exact(Ac (Ac (Aa _ _) _) _)
 rintro e w5 ⟨rfl,g5⟩;have hb5:=((Blk.new w (hdC ⟨3,s,0,0,[],[]⟩ (.slice pa ([]:List Bs).length pc) (.slice la n lc)) 163).alloc (.cells #[.int .i64 0,.int .i64 0,.string ⟨#[]⟩] 161 (0,0))).gb g5 (by simp);have x_:=hb5.c7;simp only at x_;have HB:=S hb5;have HG:=S (Z (Ac (gZ w (.cells (hdC ⟨3,s,0,0,[],[]⟩ (.slice pa ([]:List Bs).length pc) (.slice la n lc)).toArray 163 (0,0)) none) (.cells #[.int .i64 0,.int .i64 0,.string ⟨#[]⟩] 161 (0,0))) g5);clear g5 hb5;go_wp2_with fail;refine mR (H3.1 _ HG.1) λw6 g6=>?_;go_wp2;go_ret;exact⟨rfl,Z HG.1 g6⟩
def Xv(H:Hid (VaH w ⟨4,s,0,0,[],[]⟩ pa la pc n lc)):
 Calls Tryz.prog 170 #[exV ⟨4,s,0,0,[],[]⟩ (.slice pa (List.length ([]:List Bs)) pc) (.slice la n lc)] w (ρ w (.bool (A1 ⟨4,s,0,0,[],[]⟩ n))):=by
 go_enter func170,ntmps170;go_wp2_with fail;refine(H.1.1 _ ?gg).mono ?_
 case gg=>exact(Ac (Ac (Aa _ _) _) _)
 rintro e w5 ⟨rfl,g5⟩;have hb5:=((Blk.new w (hdC ⟨4,s,0,0,[],[]⟩ (.slice pa ([]:List Bs).length pc) (.slice la n lc)) 163).alloc (.cells #[.int .i64 0,.int .i64 0,.string ⟨#[]⟩] 161 (0,0))).gb g5 (by simp);have x_:=hb5.c7;simp only at x_;have HB:=S hb5;have HG:=S (Z (Ac (gZ w (.cells (hdC ⟨4,s,0,0,[],[]⟩ (.slice pa ([]:List Bs).length pc) (.slice la n lc)).toArray 163 (0,0)) none) (.cells #[.int .i64 0,.int .i64 0,.string ⟨#[]⟩] 161 (0,0))) g5);clear g5 hb5;have HM:=S (show A1 ⟨4,s,0,0,[],[]⟩ n=((s==[45]||s==[46,78,79,84,46])&&n==1)from rfl);cases h1:(s==[45])with
 | true=>
   have HF:=S (show A1 ⟨4,s,0,0,[],[]⟩ n=((n:Int)==1)by rw[HM.1,h1,Bool.true_or,Bool.true_and,Bool.eq_iff_iff];first| (simp;done)| (simp;omega));clear HM;go_wp2;go_ret;exact⟨by rw[HF.1];rfl,HG.1⟩
 | false=>
   cases h2:(s==[46,78,79,84,46])with
   | true=>
     have HF:=S (show A1 ⟨4,s,0,0,[],[]⟩ n=((n:Int)==1)by rw[HM.1,h1,h2,Bool.false_or,Bool.true_and,Bool.eq_iff_iff];first| (simp;done)| (simp;omega));clear HM;go_wp2;go_ret;exact⟨by rw[HF.1];rfl,HG.1⟩
   | false=>
     have HF:=S (show A1 ⟨4,s,0,0,[],[]⟩ n=false by rw[HM.1,h1,h2];rfl);clear HM;go_wp2;go_ret;exact⟨by rw[HF.1];rfl,HG.1⟩
def Xw(H:Hid (VaH w ⟨5,s,0,0,[],[]⟩ pa la pc n lc)):
 Calls Tryz.prog 170 #[exV ⟨5,s,0,0,[],[]⟩ (.slice pa (List.length ([]:List Bs)) pc) (.slice la n lc)] w (ρ w (.bool (A1 ⟨5,s,0,0,[],[]⟩ n))):=by
 go_enter func170,ntmps170;go_wp2_with fail;refine(H.1.1 _ ?gg).mono ?_
 case gg=>exact(Ac (Ac (Aa _ _) _) _)
 rintro e w5 ⟨rfl,g5⟩;have hb5:=((Blk.new w (hdC ⟨5,s,0,0,[],[]⟩ (.slice pa ([]:List Bs).length pc) (.slice la n lc)) 163).alloc (.cells #[.int .i64 0,.int .i64 0,.string ⟨#[]⟩] 161 (0,0))).gb g5 (by simp);have x_:=hb5.c7;simp only at x_;have HB:=S hb5;have HG:=S (Z (Ac (gZ w (.cells (hdC ⟨5,s,0,0,[],[]⟩ (.slice pa ([]:List Bs).length pc) (.slice la n lc)).toArray 163 (0,0)) none) (.cells #[.int .i64 0,.int .i64 0,.string ⟨#[]⟩] 161 (0,0))) g5);clear g5 hb5;have HM:=S (show A1 ⟨5,s,0,0,[],[]⟩ n=(opsL.contains s&&n==2)from rfl);have H3:=S H.1.2.2.2.1;simp only at H3;cases hb:opsL.contains s with
 | true=>
   have HF:=S (show A1 ⟨5,s,0,0,[],[]⟩ n=((n:Int)==2)by rw[HM.1,hb,Bool.true_and,Bool.eq_iff_iff];first| (simp;done)| (simp;omega));rw[hb]at H3;clear HM hb;go_wp2_with fail;refine mR (H3.1 _ HG.1) λw6 g6=>?_;have hb6:=HB.1.gb g6 (by simp);have y_:=hb6.c7;simp only at y_;have HG6:=S (Z HG.1 g6);clear g6 hb6;go_wp2;go_ret;exact⟨by rw[HF.1];rfl,HG6.1⟩
 | false=>
   have HF:=S (show A1 ⟨5,s,0,0,[],[]⟩ n=false by rw[HM.1,hb];rfl);rw[hb]at H3;clear HM hb;go_wp2_with fail;refine mR (H3.1 _ HG.1) λw6 g6=>?_;go_wp2;go_ret;exact⟨by rw[HF.1];rfl,Z HG.1 g6⟩
def Xx(H:Hid (VaH w ⟨6,s,0,0,[],[]⟩ pa la pc n lc)):
 Calls Tryz.prog 170 #[exV ⟨6,s,0,0,[],[]⟩ (.slice pa (List.length ([]:List Bs)) pc) (.slice la n lc)] w (ρ w (.bool (A1 ⟨6,s,0,0,[],[]⟩ n))):=by
 go_enter func170,ntmps170;go_wp2_with fail;refine(H.1.1 _ ?gg).mono ?_
 case gg=>exact(Ac (Ac (Aa _ _) _) _)
 rintro e w5 ⟨rfl,g5⟩;have hb5:=((Blk.new w (hdC ⟨6,s,0,0,[],[]⟩ (.slice pa ([]:List Bs).length pc) (.slice la n lc)) 163).alloc (.cells #[.int .i64 0,.int .i64 0,.string ⟨#[]⟩] 161 (0,0))).gb g5 (by simp);have x_:=hb5.c7;simp only at x_;have HB:=S hb5;have HG:=S (Z (Ac (gZ w (.cells (hdC ⟨6,s,0,0,[],[]⟩ (.slice pa ([]:List Bs).length pc) (.slice la n lc)).toArray 163 (0,0)) none) (.cells #[.int .i64 0,.int .i64 0,.string ⟨#[]⟩] 161 (0,0))) g5);clear g5 hb5;have HM:=S (show A1 ⟨6,s,0,0,[],[]⟩ n=(s.isEmpty&&n==2)from rfl);by_cases hs:s=[]
 ·have hsI:(s==[])=true:=by simpa using hs
  by_cases hn:n=2
  ·have hnI:((n:Int)==2)=true:=by simp;omega
   have HF:=S (show A1 ⟨6,s,0,0,[],[]⟩ n=true by rw[HM.1];simp[hs,hn]);clear HM hs hn;go_wp2;go_ret;exact⟨by rw[HF.1];rfl,HG.1⟩
  ·have hnI:((n:Int)==2)=false:=by simp;omega
   have HF:=S (show A1 ⟨6,s,0,0,[],[]⟩ n=false by rw[HM.1];simp[hn]);clear HM hs hn;go_wp2;go_ret;exact⟨by rw[HF.1];rfl,HG.1⟩
 ·have hsI:(s==[])=false:=by simpa using hs
  have HF:=S (show A1 ⟨6,s,0,0,[],[]⟩ n=false by rw[HM.1];simp[hs]);clear HM hs;go_wp2;go_ret;exact⟨by rw[HF.1];rfl,HG.1⟩
def Xy(H:Hid (VaH w ⟨7,s,0,0,[],[]⟩ pa la pc n lc)):
 Calls Tryz.prog 170 #[exV ⟨7,s,0,0,[],[]⟩ (.slice pa (List.length ([]:List Bs)) pc) (.slice la n lc)] w (ρ w (.bool (A1 ⟨7,s,0,0,[],[]⟩ n))):=by
 go_enter func170,ntmps170;go_wp2_with fail;refine(H.1.1 _ ?gg).mono ?_
 case gg=>exact(Ac (Ac (Aa _ _) _) _)
 rintro e w5 ⟨rfl,g5⟩;have hb5:=((Blk.new w (hdC ⟨7,s,0,0,[],[]⟩ (.slice pa ([]:List Bs).length pc) (.slice la n lc)) 163).alloc (.cells #[.int .i64 0,.int .i64 0,.string ⟨#[]⟩] 161 (0,0))).gb g5 (by simp);have x_:=hb5.c7;simp only at x_;have HB:=S hb5;have HG:=S (Z (Ac (gZ w (.cells (hdC ⟨7,s,0,0,[],[]⟩ (.slice pa ([]:List Bs).length pc) (.slice la n lc)).toArray 163 (0,0)) none) (.cells #[.int .i64 0,.int .i64 0,.string ⟨#[]⟩] 161 (0,0))) g5);clear g5 hb5;have HM:=S (show A1 ⟨7,s,0,0,[],[]⟩ n=(s.isEmpty&&decide (1<=n))from rfl);by_cases hs:s=[]
 ·have hsI:(s==[])=true:=by simpa using hs
  by_cases hn:1<=n
  ·have hnI:(decide ((1:Int)<=(n:Int)))=true:=by simp;omega
   have HF:=S (show A1 ⟨7,s,0,0,[],[]⟩ n=true by rw[HM.1];simp[hs,hn]);clear HM hs hn;go_wp2;go_ret;exact⟨by rw[HF.1];rfl,HG.1⟩
  ·have hnI:(decide ((1:Int)<=(n:Int)))=false:=by simp;omega
   have HF:=S (show A1 ⟨7,s,0,0,[],[]⟩ n=false by rw[HM.1];simp[hn]);clear HM hs hn;go_wp2;go_ret;exact⟨by rw[HF.1];rfl,HG.1⟩
 ·have hsI:(s==[])=false:=by simpa using hs
  have HF:=S (show A1 ⟨7,s,0,0,[],[]⟩ n=false by rw[HM.1];simp[hs]);clear HM hs;go_wp2;go_ret;exact⟨by rw[HF.1];rfl,HG.1⟩
def Xz(H:Hid (VaH w ⟨8,s,0,0,[],p⟩ pa la pc n lc)):
 Calls Tryz.prog 170 #[exV ⟨8,s,0,0,[],p⟩ (.slice pa p.length pc) (.slice la n lc)] w (ρ w (.bool (A1 ⟨8,s,0,0,[],p⟩ n))):=by
 go_enter func170,ntmps170;go_wp2_with fail;refine(H.1.1 _ ?gg).mono ?_
 case gg=>exact(Ac (Ac (Aa _ _) _) _)
 rintro e w5 ⟨rfl,g5⟩;have hb5:=((Blk.new w (hdC ⟨8,s,0,0,[],p⟩ (.slice pa (p:List Bs).length pc) (.slice la n lc)) 163).alloc (.cells #[.int .i64 0,.int .i64 0,.string ⟨#[]⟩] 161 (0,0))).gb g5 (by simp);have x_:=hb5.c7;simp only at x_;have HB:=S hb5;have HG:=S (Z (Ac (gZ w (.cells (hdC ⟨8,s,0,0,[],p⟩ (.slice pa (p:List Bs).length pc) (.slice la n lc)).toArray 163 (0,0)) none) (.cells #[.int .i64 0,.int .i64 0,.string ⟨#[]⟩] 161 (0,0))) g5);clear g5 hb5;have HM:=S (show A1 ⟨8,s,0,0,[],p⟩ n=(s.isEmpty&&n==1&&p.all Ay)from rfl);by_cases hs:s=[]
 ·have hsI:(s==[])=true:=by simpa using hs
  by_cases hn:n=1
  ·have hnI:((n:Int)==1)=true:=by simp;omega
   have HF:=S (show A1 ⟨8,s,0,0,[],p⟩ n=p.all Ay by rw[HM.1];simp[hs,hn]);clear HM hs hn;have H3:=S H.1.2.2.2.2;simp only at H3;go_wp2_with fail;refine mR (H3.1 _ HG.1) λw6 g6=>?_;go_wp2;go_ret;exact⟨by rw[HF.1];rfl,Z HG.1 g6⟩
  ·have hnI:((n:Int)==1)=false:=by simp;omega
   have HF:=S (show A1 ⟨8,s,0,0,[],p⟩ n=false by rw[HM.1];simp[hn]);clear HM hs hn;go_wp2;go_ret;exact⟨by rw[HF.1];rfl,HG.1⟩
 ·have hsI:(s==[])=false:=by simpa using hs
  have HF:=S (show A1 ⟨8,s,0,0,[],p⟩ n=false by rw[HM.1];simp[hs]);clear HM hs;go_wp2;go_ret;exact⟨by rw[HF.1];rfl,HG.1⟩
def X0(H:Hid (VaH w ⟨9,s,0,0,[],[]⟩ pa la pc n lc)):
 Calls Tryz.prog 170 #[exV ⟨9,s,0,0,[],[]⟩ (.slice pa (List.length ([]:List Bs)) pc) (.slice la n lc)] w (ρ w (.bool (A1 ⟨9,s,0,0,[],[]⟩ n))):=by
 go_enter func170,ntmps170;go_wp2_with fail;refine(H.1.1 _ ?gg).mono ?_
 case gg=>exact(Ac (Ac (Aa _ _) _) _)
 rintro e w5 ⟨rfl,g5⟩;have hb5:=((Blk.new w (hdC ⟨9,s,0,0,[],[]⟩ (.slice pa ([]:List Bs).length pc) (.slice la n lc)) 163).alloc (.cells #[.int .i64 0,.int .i64 0,.string ⟨#[]⟩] 161 (0,0))).gb g5 (by simp);have x_:=hb5.c7;simp only at x_;have HB:=S hb5;have HG:=S (Z (Ac (gZ w (.cells (hdC ⟨9,s,0,0,[],[]⟩ (.slice pa ([]:List Bs).length pc) (.slice la n lc)).toArray 163 (0,0)) none) (.cells #[.int .i64 0,.int .i64 0,.string ⟨#[]⟩] 161 (0,0))) g5);clear g5 hb5;have HM:=S (show A1 ⟨9,s,0,0,[],[]⟩ n=((Ay s&&n==0)||(s.isEmpty&&n==1))from rfl);have H3:=S H.1.2.1;simp only at H3;cases hb:(Ay s&&n==0)with
 | true=>
   obtain⟨hb1,hb2⟩:=(Bool.and_eq_true _ _).mp hb;have hnI:((n:Int)==0)=true:=by simpa using hb2
   have HF:=S (show A1 ⟨9,s,0,0,[],[]⟩ n=true by rw[HM.1,hb];rfl);rw[hb1]at H3;clear HM hb hb1 hb2;go_wp2_with fail;refine mR (H3.1 _ HG.1) λw6 g6=>?_;have hb6:=HB.1.gb g6 (by simp);have y_:=hb6.c7;simp only at y_;have HG6:=S (Z HG.1 g6);clear g6 hb6;go_wp2;go_ret;exact⟨by rw[HF.1];rfl,HG6.1⟩
 | false=>
   have HF0:=S (show A1 ⟨9,s,0,0,[],[]⟩ n=(s.isEmpty&&n==1)by rw[HM.1,hb];rfl);clear HM;cases hs:(s==[])with
   | true=>
     have HF:=S (show A1 ⟨9,s,0,0,[],[]⟩ n=((n:Int)==1)by rw[HF0.1,show s.isEmpty=true by simpa using hs,Bool.true_and,Bool.eq_iff_iff];first| (simp;done)| (simp;omega));have hn:Ay s=false:=by rw[show s=[]by simpa using hs];rfl
     rw[hn]at H3;clear HF0 hb hn;go_wp2_with fail;refine mR (H3.1 _ HG.1) λw6 g6=>?_;have hb6:=HB.1.gb g6 (by simp);have y_:=hb6.c7;simp only at y_;have HG6:=S (Z HG.1 g6);clear g6 hb6;go_wp2;go_ret;exact⟨by rw[HF.1];rfl,HG6.1⟩
   | false=>
     have HF:=S (show A1 ⟨9,s,0,0,[],[]⟩ n=false by rw[HF0.1,show s.isEmpty=false by simpa using hs];rfl);cases hn:Ay s
     case' true=>
      have hnI:((n:Int)==0)=false:=by rw[hn]at hb;simpa using hb
     case' false=>
      skip
     all_goals
      rw[hn]at H3;clear HF0 hb hn;go_wp2_with fail;refine mR (H3.1 _ HG.1) λw6 g6=>?_;have hb6:=HB.1.gb g6 (by simp);have y_:=hb6.c7;simp only at y_;have HG6:=S (Z HG.1 g6);clear g6 hb6;go_wp2;go_ret;exact⟨by rw[HF.1];rfl,HG6.1⟩
end
end Go.Proofs.YtbjfaimkiclhgaaGreatDoor
