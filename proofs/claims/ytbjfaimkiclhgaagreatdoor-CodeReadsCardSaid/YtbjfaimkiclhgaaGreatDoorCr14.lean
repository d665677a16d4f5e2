/-
  QgE QgI QgF KgV Code: an expression that was read has short texts.
-/
import Derived.Test.YtbjfaimkiclhgaaGreatDoorCr13
import Derived.Test.YtbjfaimkiclhgaaGreatDoorCr11
import Derived.Test.YtbjfaimkiclhgaaGreatDoorCr10
import Derived.Deep.CutRange
import Derived.Test.YtbjfaimkiclhgaaGreatDoorCr12
import Derived.Test.YtbjfaimkiclhgaaGreatDoorCr09
set_option linter.all false
set_option maxRecDepth 100000
set_option maxHeartbeats 8000000
namespace Go.Proofs.YtbjfaimkiclhgaaGreatDoor
open Go.Proofs.Tryz
open Go.RowKit
section
variable {w:World}{b:Nat}{tv wo:Value}{l:List Tok}{i:Nat}
def DeclQ(hn:Al l)(day:Bs->Int)(n:Nat)(b:Nat)(tv wo:Value)(w:World)(wd:Bs)(rest:List Bs×Fo->Rd l StB)(R:Res StB)(g:Nat)(wr:World):Prop:=
 ∃a j m,g=m+1/\(∃pv xv bv,KA b w (w.heap.size+1) wr 2 wd [] a.1 a.2 .nil pv xv bv)/\Par wr b tv wo l wordsL j/\a.1.length+m<=n/\a.2.len+m<=n/\((FY hn day n a).bind λa=>(Rd.moreS [44] (FY hn day n) m a).bind rest).f j=R
def I6(hn:Al l){day:Bs->Int}{n:Nat}(hnn:n<=100000)(hE:CE 208 b tv wo l wordsL (Ak l day n))(hl:A0 l)(h:Par w b tv wo l wordsL i)(wd:Bs)(ho:(D9 hn day n wd).f i ≠ .out):
 Calls Tryz.prog 323 #[.pointer (some ⟨b,0,none⟩),str wd] w (Post b tv wo l wordsL w (VSt w) ((D9 hn day n wd).f i)):=by
 have hb:=h.lt;have HO:=S ho;generalize hR:(D9 hn day n wd).f i=R at*;unfold D9 at hR;have HQ:=S hR;have HE:=S hE;have HSh:=S hl;have hz:=Blk.new w (stC 0 (.slice none 0 0)) 134;have gz:w.grownBy (w.alloc (.cells (stC 0 (.slice none 0 0)).toArray 134 (0,0))) (some b):=Ac (Aa _ _) _;have hKK:=KA.start hz gz hb (by simp) 2 wd;rw[show(w.alloc (.cells (stC 0 (.slice none 0 0)).toArray 134 (0,0))).heap.size=w.heap.size+1 by simp]at hKK;have HK:=S hKK;have hp:=(h.alloc (.cells (stC 0 (.slice none 0 0)).toArray 134 (0,0))).alloc (.cells #[.int .i64 2,str wd,str [],.slice none 0 0,.slice none 0 0,.slice none 0 0,.int .i64 0,.slice none 0 0,.slice none 0 0,.slice none 0 0] 134 (0,0));clear hE hl h ho hR hz gz hKK;go_enter func323,ntmps323;go_wp2_with fail;go_loopg [] (n+1) (λg wr=>DeclQ hn day n b tv wo w wd (λa=>Rd.fin.bind λ_=>Rd.pure ({sd0 2 wd with p:=a.1,x:=a.2},.nil)) R g wr)
 case atStart=>exact⟨([],.nil),i,n,rfl,⟨_,_,_,HK.1⟩,hp,by simp,by simp[Fo.len],HQ.1⟩
 case round=>
  obtain⟨a,j0,m,rfl,⟨pv,xv,bv,hK⟩,hp1,hm1,hm2,hq⟩:=hrel;have HK:=S hK;have hp:=hp1;have HQ:=S hq;clear hK hp1 hq;rw[Rd.bind_f]at HQ;have e0:=HQ.1;unfold FY at e0;rw[Rd.name_f]at e0;replace HQ:=S e0;clear e0;have hkl:=HK.1.lt;have hx3:=HK.1.blk.cell' 3 rfl;cases hr6:AD l j0 with
  |out=>exact absurd (by rw[<-HQ.1,hr6];rfl) HO.1
  | bad q6=>
    go_wp2_with fail;go_region_with(go_at_call 247;refine(B7 (hp.gbN (Ad (Aa _ none))) HSh.1).mono ?_;rintro e w6 hq6;rw[hr6]at hq6;obtain⟨g6,rfl⟩:=hq6;refine Bt (P:=Tryz.prog) ⟨rfl,Post.bad (Z (Ad HK.1.gr) g6) (by rw[<-HQ.1,hr6];rfl)⟩ ⟨#[],[]⟩ w6 ?_);all_goals trivial
  |ok s j1=>
  rw[hr6,Res.bind_ok,Rd.bind_f,Rd.ifs_f]at HQ;go_upto_region 2 with fail;go_cut []from 9 to 15 (λwx=>(∃pv' xv' bv',KA b w (w.heap.size+1) wx 2 wd [] (a.1++[s]) a.2 .nil pv' xv' bv')/\Par wx b tv wo l wordsL j1)
  case first=>
   obtain⟨i0,hi0,hz0,hz1,hz2⟩:=info_parts Fp;have HI:=S (X hi0 (X hz0 (X hz1 hz2)));have hroom:=(show a.1.length<=200000 by omega);have hbL:=HK.1.bL;have hwL:=HK.1.wL;clear hi0 hz0 hz1 hz2;go_region_law(first
    | (refine step_append_lies _ (by rfl) _ _ 37 (by rfl) (w.heap.size+1) 9 i0 _ 1 16 underlying37 HI.1.1 HI.1.2.1 HI.1.2.2.1 HI.1.2.2.2 rfl (by decide) _ _ _ (by rfl) HB.1.1.p ⟨w6.heap.size,0,none⟩ 1 1 [str s] (by rfl) rfl (EV _ _ _) (by simp[Value.oneCell']) (by decide) (by unfold maxLen;omega) (by omega) (by simp<;>omega) _ rfl ?_;intro j cap w7 hown hgrow hat hlt;(have HK8:=S (X (HB.1.1.addP' hown hgrow hat) (Par.app HB.1.2 hgrow (λq hq=>(HB.1.1.belowP q hq).1) hbL 3 (.slice (some ⟨j,0,none⟩) (a.1.length+1) cap))));(have hb7:=HB.1.1.blk.gb hgrow HB.1.1.neP);(have f7:=hb7.frozen 3);(have d7:=hb7.cell' 3 rfl);(have l7:=hb7.lt);clear hown hgrow hat hb7 HB)
    | (go_simp;go_at_call 247;refine(B7 (hp.drewN 1) HSh.1).mono ?_;rintro e w6 hq6;rw[hr6]at hq6;obtain⟨g6,v,rfl,rfl,h6⟩:=hq6;(have k6:=HK.1.gb (Z (Ad (Aa _ _)) g6));(have l6:=k6.lt);(have d6:=k6.blk.cell' 3 rfl);(have s6:=g6.size);(have HB:=S (X (k6.alloc (.cells #[str s] 9 (0,0))) (h6.alloc (.cells #[str s] 9 (0,0)))));clear k6 h6 g6))
   all_goals
    go_wp2_with fail;go_meet
    case rel=>exact⟨⟨_,_,_,HK8.1.1⟩,HK8.1.2⟩
  case rest=>
  obtain⟨⟨pv2,xv2,bv2,hK⟩,hp1⟩:=hcut;replace HK:=S hK;replace hp:=hp1;clear hK hp1 hx3 hr6;generalize hWW:wc=W8 at*;clear hWW;have HF:=S (λq hq=>HK.1.fresh q hq);have gZ:=gZ W8 (.cells zeroE.toArray 163 (0,0)) none;have HZk:=S (KE.new (x:=C6) (ok:=An W8.heap.size) (Cells.nil W8 1 (λ_=>False)) (RepL.nil W8 (λ_=>False)) (λq hq _=>hq.elim));have HK0:=S (X HK.1 gZ);have hb8:=hp.lt;replace HK:=S (HK.1.gb (Ao gZ));replace hp:=hp.gbN gZ;clear gZ;have hkl:=HK.1.lt;cases hs:Ah (Ab l j1) [58,61]with
  | false=>
    go_wp2_with fail;refine mR (Bb hp [58,61] hs) λw9 g=>?_;replace HK:=S (HK.1.gb (Ao g));have HXk:=S (HZk.1.gbN g);replace hp:=hp.gbN g;rw[if_neg (nF hs)]at HQ;clear g HZk hs;rw[Rd.pure_f,Res.bind_ok]at HQ;obtain⟨i0,hi0,hz0,hz1,hz2⟩:=info_parts CJ;have HI:=S (X hi0 (X hz0 (X hz1 hz2)));have hbL:=HK.1.bL;have hwL:=HK.1.wL;have hkl:=HK.1.lt;clear hi0 hz0 hz1 hz2;have hx4:=HK.1.blk.cell' 4 rfl;have hcx:=HXk.1.blk;obtain⟨cx_0,cx_1,cx_2,cx_3,cx_4,cx_5,cx_6,cx_f⟩:=(hcx).c7;have hlx:=hcx.lt;have gA:=gZ w9 (.cells (hdC (C6).h (.slice none (C6).h.p.length 0) (.slice none (C6).kids.len 0)).toArray 163 (0,0)) none;have k7:=HK.1.alloc (.cells (hdC (C6).h (.slice none (C6).h.p.length 0) (.slice none (C6).kids.len 0)).toArray 163 (0,0));obtain⟨cs6,ho6,hr7⟩:=k7.x;have HB:=S (X k7 (X ho6 (X hr7 (X (HXk.1.rp.gb gA (by simp)) (X (HXk.1.rl.gb gA (by simp)) (hp.alloc (.cells (hdC (C6).h (.slice none (C6).h.p.length 0) (.slice none (C6).kids.len 0)).toArray 163 (0,0))))))));clear k7 ho6 hr7 gA hcx
    go_wp2_with (at_builtin;refine wpList_append_lies _ rfl _ _ 129 rfl (w.heap.size+1) 163 i0 _ 7 104 underlying129 HI.1.1 HI.1.2.1 HI.1.2.2.1 HI.1.2.2.2 rfl (by decide) _ _ cs6 rfl HB.1.2.1 ⟨(w9).heap.size,0,none⟩ 1 1 (hdC (C6).h (.slice none (C6).h.p.length 0) (.slice none (C6).kids.len 0)) rfl rfl (AP _ _ _) (by simp[hdC,Value.oneCell']) (by decide) (by unfold maxLen;omega) (by omega) (by simp;omega) _ rfl ?_;intro j cap w7 hown hgrow hat hlt;(have HK8:=S (X (HB.1.1.addX' HB.1.2.1 HB.1.2.2.1 HB.1.2.2.2.1 HB.1.2.2.2.2.1 HF.1 hown hgrow hat) (Par.app HB.1.2.2.2.2.2 hgrow (λq hq=>(HB.1.1.belowX q hq).1) hbL 4 (.slice (some ⟨j,0,none⟩) (a.2.len+1) cap))));(have hb7:=HB.1.1.blk.gb hgrow HB.1.1.neX);(have f7:=hb7.frozen 4);(have d7:=hb7.cell' 4 rfl);(have l7:=hb7.lt);clear hown hgrow hat hb7 HB);generalize hWW:World.setCell _ _ _=W11 at*;have HK:=S HK8.1.1;have hp:=HK8.1.2;clear HK8 d7 f7 l7 hx4 cx_0 cx_1 cx_2 cx_3 cx_4 cx_5 cx_6 cx_f hlx HXk HF;rw[Rd.pure_f,Res.bind_ok,Rd.bind_f]at HQ;cases m with
    |zero=>exact absurd HQ.1.symm HO.1
    |succ m=>
    rw[Rd.moreS_f]at HQ;have hkl:=HK.1.lt;cases hs:Ah (Ab l j1) [44]with
    | true=>
      go_wp2_with fail;refine(Bm hp [44] hs).mono ?_;rintro e w12 ⟨rfl,hp9,g⟩;replace HK:=S (HK.1.gb g);replace hp:=hp9;clear g hp9;rw[if_pos hs]at HQ;clear hs;rw[Rd.bind_f,Res.bind_assoc]at HQ;go_wp2;go_roundg (m+1)
      case measure=>omega
      case rel=>exact⟨(a.1++[s],a.2.snoc C6),_,m,rfl,⟨_,_,_,HK.1⟩,hp,by simp;omega,by simp[Fo.len_snoc];omega,HQ.1⟩
    | false=>
      go_wp2_with fail;refine mR (Bb hp [44] hs) λw12 g=>?_;replace HK:=S (HK.1.gbN g);replace hp:=hp.gbN g;clear g;rw[if_neg (nF hs)]at HQ;clear hs;rw[Res.bind_ok,Rd.fin_f]at HQ;go_wp2_with fail;refine(AY hp).mono ?_;intro e w13 hq;obtain⟨g,⟨q,hr,rfl⟩| ⟨u,i13,v,hr,rfl,rfl,hp9⟩⟩:=hq.split
      ·exact⟨rfl,Post.bad (Z HK.1.gr g) (by rw[<-HQ.1,hr];rfl)⟩
      replace HK:=S (HK.1.gb g);replace hp:=hp9;clear hp9;rw[hr,Res.bind_ok]at HQ;clear hr g;rw[Rd.pure_f]at HQ;replace HK:=S HK.1.toKS;generalize a.1++[s]=p9 at*;generalize a.2.snoc C6=f9 at*;obtain⟨pa9,xa9,ba9,na9,fa9,wa9,pc9,xc9,bc9,nc9,fc9,wc9,e91,e92,e93,e94,e95,e96⟩:=HK.1.shapes
      (first|cases e91|clear e91);(first|cases e92|clear e92);(first|cases e93|clear e93);(first|cases e94|clear e94);(first|cases e95|clear e95);(first|cases e96|clear e96);have hkb:=HK.1.blk;have hkz:=HK.1.zero;have hkl:=hkb.lt;have hkl2:=hkz.lt;have ck_:=hkb.c10;have cz_:=hkz.c10;clear hkb hkz;go_wp2;have hres9:=C1 HK.1 hp HQ.1.symm;have hblk9:=HK.1.out.2.2.1;refine bZ ?hr9 rfl hres9
      case hr9=>exact A8 rfl _ hblk9 rfl rfl
  | true=>
    go_wp2_with fail;refine(Bm hp [58,61] hs).mono ?_;rintro e w9 ⟨rfl,hp9,g⟩;have hK9:=HK.1.gb g;have hkl9:=hK9.lt;have hwL:=HK.1.wL;have hbL:=HK.1.bL;replace HZk:=S (HZk.1.gb g (by simp;omega) (λq hq _ e=>by cases e;have:W8.heap.size<=b:=hq;omega));have hl9:=HZk.1.blk.lt;have HG9:=S (Z (Ao HK0.1.2) g);replace hp:=hp9;rw[if_pos hs]at HQ;clear g hs hK9 HK hp9;go_wp2_with fail;refine(HE.1 _ _ hp (λe=>HO.1 (by rw[<-HQ.1];show Res.bind (Res.bind (Ak l day n _) _) _=_;rw[e];rfl))).mono ?_;intro e w10 hq;obtain⟨g10,⟨q,hr,rfl⟩| ⟨x,i8,v,hr,rfl,⟨pe,pf,le,lf,rfl,rp,rl⟩,h10⟩⟩:=hq.split
    ·exact⟨rfl,Post.bad (Z HK0.1.1.gr (Z HG9.1 g10)) (by rw[<-HQ.1];show Res.bind (Res.bind (Ak l day n _) _) _=_;rw[hr];rfl)⟩
    have e0:Res.bind (Res.bind (Ak l day n (j1+1)) _) _=R:=HQ.1;rw[hr,Res.bind_ok]at e0;replace HQ:=S e0;clear e0 hr;have hs10:=g10.size;have hZ10:=HZk.1.gb g10 (by simp;omega) (λq hq _ e=>by cases e;have:W8.heap.size<=b:=hq;omega);have hcz:=hZ10.blk;obtain⟨dz_0,dz_1,dz_2,dz_3,dz_4,dz_5,dz_6,dz_f⟩:=(hcz).c7;have hlz:=hcz.lt;have g11:=A2 w10 W8.heap.size (.int .i64 x.h.op) (str x.h.s) (.int .i64 x.h.vk) (.int .i64 x.h.vn) (str x.h.vs) (.slice pe x.h.p.length pf) (.slice le x.kids.len lf);have hK11:=HK0.1.1.gb (Aq (Z HG9.1 g10) g11 (.inr (nR _)));have hZ11:=(hZ10.put (y:=x) rp rl (λq hq _=>by have h1:w9.heap.size<=q:=hq;omega)).mono (ok':=An W8.heap.size) (λq hq _=>by have h1:w9.heap.size<=q:=hq;show W8.heap.size<=q;omega);have hp11:=h10.gb g11 (by intro q e;cases e;omega);simp only[set7]at hK11 hZ11 hp11;have HK:=S hK11;have HXk:=S hZ11;have HP11:=S hp11;clear g11 hZ10 rp rl g10 HG9 h10 hcz hK11 hZ11 hp11 HZk hp;go_upto_region 6 with fail;clear dz_0 dz_1 dz_2 dz_3 dz_4 dz_5 dz_6 dz_f hlz;generalize(((((((w10.setCell {block:=W8.heap.size,off:=0} (.int .i64 x.h.op)).setCell {block:=W8.heap.size,off:=1} (.string {data:=List.toArray x.h.s})).setCell {block:=W8.heap.size,off:=2} (.int .i64 x.h.vk)).setCell {block:=W8.heap.size,off:=3} (.int .i64 x.h.vn)).setCell {block:=W8.heap.size,off:=4} (.string {data:=List.toArray x.h.vs})).setCell {block:=W8.heap.size,off:=5} (.slice pe x.h.p.length pf)).setCell {block:=W8.heap.size,off:=6} (.slice le x.kids.len lf))=W9 at*
    have hp:=HP11.1;clear HP11;obtain⟨i0,hi0,hz0,hz1,hz2⟩:=info_parts CJ;have HI:=S (X hi0 (X hz0 (X hz1 hz2)));have hbL:=HK.1.bL;have hwL:=HK.1.wL;have hkl:=HK.1.lt;clear hi0 hz0 hz1 hz2;have hx4:=HK.1.blk.cell' 4 rfl;have hcx:=HXk.1.blk;obtain⟨cx_0,cx_1,cx_2,cx_3,cx_4,cx_5,cx_6,cx_f⟩:=(hcx).c7;have hlx:=hcx.lt;have gA:=gZ W9 (.cells (hdC (x).h (.slice pe (x).h.p.length pf) (.slice le (x).kids.len lf)).toArray 163 (0,0)) none;have k7:=HK.1.alloc (.cells (hdC (x).h (.slice pe (x).h.p.length pf) (.slice le (x).kids.len lf)).toArray 163 (0,0));obtain⟨cs6,ho6,hr7⟩:=k7.x;have HB:=S (X k7 (X ho6 (X hr7 (X (HXk.1.rp.gb gA (by simp)) (X (HXk.1.rl.gb gA (by simp)) (hp.alloc (.cells (hdC (x).h (.slice pe (x).h.p.length pf) (.slice le (x).kids.len lf)).toArray 163 (0,0))))))));clear k7 ho6 hr7 gA hcx
    go_wp2_with (at_builtin;refine wpList_append_lies _ rfl _ _ 129 rfl (w.heap.size+1) 163 i0 _ 7 104 underlying129 HI.1.1 HI.1.2.1 HI.1.2.2.1 HI.1.2.2.2 rfl (by decide) _ _ cs6 rfl HB.1.2.1 ⟨(W9).heap.size,0,none⟩ 1 1 (hdC (x).h (.slice pe (x).h.p.length pf) (.slice le (x).kids.len lf)) rfl rfl (AP _ _ _) (by simp[hdC,Value.oneCell']) (by decide) (by unfold maxLen;omega) (by omega) (by simp;omega) _ rfl ?_;intro j cap w7 hown hgrow hat hlt;(have HK8:=S (X (HB.1.1.addX' HB.1.2.1 HB.1.2.2.1 HB.1.2.2.2.1 HB.1.2.2.2.2.1 HF.1 hown hgrow hat) (Par.app HB.1.2.2.2.2.2 hgrow (λq hq=>(HB.1.1.belowX q hq).1) hbL 4 (.slice (some ⟨j,0,none⟩) (a.2.len+1) cap))));(have hb7:=HB.1.1.blk.gb hgrow HB.1.1.neX);(have f7:=hb7.frozen 4);(have d7:=hb7.cell' 4 rfl);(have l7:=hb7.lt);clear hown hgrow hat hb7 HB);generalize hWW:World.setCell _ _ _=W11 at*;have HK:=S HK8.1.1;have hp:=HK8.1.2;clear HK8 d7 f7 l7 hx4 cx_0 cx_1 cx_2 cx_3 cx_4 cx_5 cx_6 cx_f hlx HXk HF;rw[Rd.pure_f,Res.bind_ok,Rd.bind_f]at HQ;cases m with
    |zero=>exact absurd HQ.1.symm HO.1
    |succ m=>
    rw[Rd.moreS_f]at HQ;have hkl:=HK.1.lt;cases hs:Ah (Ab l i8) [44]with
    | true=>
      go_wp2_with fail;refine(Bm hp [44] hs).mono ?_;rintro e w12 ⟨rfl,hp9,g⟩;replace HK:=S (HK.1.gb g);replace hp:=hp9;clear g hp9;rw[if_pos hs]at HQ;clear hs;rw[Rd.bind_f,Res.bind_assoc]at HQ;go_wp2;go_roundg (m+1)
      case measure=>omega
      case rel=>exact⟨(a.1++[s],a.2.snoc x),_,m,rfl,⟨_,_,_,HK.1⟩,hp,by simp;omega,by simp[Fo.len_snoc];omega,HQ.1⟩
    | false=>
      go_wp2_with fail;refine mR (Bb hp [44] hs) λw12 g=>?_;replace HK:=S (HK.1.gbN g);replace hp:=hp.gbN g;clear g;rw[if_neg (nF hs)]at HQ;clear hs;rw[Res.bind_ok,Rd.fin_f]at HQ;go_wp2_with fail;refine(AY hp).mono ?_;intro e w13 hq;obtain⟨g,⟨q,hr,rfl⟩| ⟨u,i13,v,hr,rfl,rfl,hp9⟩⟩:=hq.split
      ·exact⟨rfl,Post.bad (Z HK.1.gr g) (by rw[<-HQ.1,hr];rfl)⟩
      replace HK:=S (HK.1.gb g);replace hp:=hp9;clear hp9;rw[hr,Res.bind_ok]at HQ;clear hr g;rw[Rd.pure_f]at HQ;replace HK:=S HK.1.toKS;generalize a.1++[s]=p9 at*;generalize a.2.snoc x=f9 at*;obtain⟨pa9,xa9,ba9,na9,fa9,wa9,pc9,xc9,bc9,nc9,fc9,wc9,e91,e92,e93,e94,e95,e96⟩:=HK.1.shapes
      (first|cases e91|clear e91);(first|cases e92|clear e92);(first|cases e93|clear e93);(first|cases e94|clear e94);(first|cases e95|clear e95);(first|cases e96|clear e96);have hkb:=HK.1.blk;have hkz:=HK.1.zero;have hkl:=hkb.lt;have hkl2:=hkz.lt;have ck_:=hkb.c10;have cz_:=hkz.c10;clear hkb hkz;go_wp2;have hres9:=C1 HK.1 hp HQ.1.symm;have hblk9:=HK.1.out.2.2.1;refine bZ ?hr9 rfl hres9
      case hr9=>exact A8 rfl _ hblk9 rfl rfl
end
section
variable {w wr:World}{b:Nat}{tv wo:Value}{l:List Tok}{i:Nat}
def ReplQ(hn:Al l)(day:Bs->Int)(n:Nat)(b:Nat)(tv wo:Value)(w:World)(L:Nat)(wd:Bs)(rest:List Bs×Fo->Rd l Sd)(R:Res Sd)(g:Nat)(wx:World):Prop:=
 (∃a j m,g=m+1/\(∃pv xv,KA b w L wx 13 wd [] a.1 a.2 .nil pv xv (.slice none 0 0))/\Par wx b tv wo l wordsL j/\a.1.length+m<=n/\a.2.len+m<=n/\((EG hn wordsL day n a).bind λa=>(Rd.moreS [44] (EG hn wordsL day n) m a).bind rest).f j=R)\/False
def Qj(hn:Al l){day:Bs->Int}{n L:Nat}{wd:Bs}(hnn:n<=100000)(hE:CE 208 b tv wo l wordsL (Ak l day n))(hok:∀i,At (Ab l i))(hl:A0 l)(k:KA b w L wr 13 wd [] [] .nil .nil (.slice none 0 0) (.slice none 0 0) (.slice none 0 0))(h:Par wr b tv wo l wordsL i)(ho:(Io hn day n wd).f i ≠ .out):
 Calls Tryz.prog 352 #[.pointer (some ⟨b,0,none⟩),.pointer (some ⟨L,0,none⟩)] wr (Post b tv wo l wordsL w (VIn b w L) ((Io hn day n wd).f i)):=by
 have hb:=h.lt;have HO:=S ho;generalize hR:(Io hn day n wd).f i=R at*;unfold Io at hR;have HQ:=S hR;have HE:=S hE;have HTk:=S hok;have HSh:=S hl;have HK:=S k;have hp:=h;clear hE hok hl h ho hR k;go_enter func352,ntmps352;go_wp2_with fail;go_loopg [] (n+1) (λg wx=>ReplQ hn day n b tv wo w L wd (λa=>(By hn wordsL day n n Cm).bind λc=>Rd.pure (Db {sd0 13 wd with p:=a.1,x:=a.2} c)) R g wx)
 case atStart=>exact .inl ⟨([],.nil),i,n,rfl,⟨_,_,HK.1⟩,hp,by simp,by simp[Fo.len],HQ.1⟩
 case round=>
  obtain⟨a,j0,m,rfl,⟨pv,xv,hK⟩,hp1,hm1,hm2,hq⟩|hF:=hrel;rotate_left
  ·exact hF.elim
  have HK:=S hK;have hp:=hp1;have HQ:=S hq;clear hK hp1 hq;rw[Rd.bind_f]at HQ;have e0:=HQ.1;unfold EG at e0;rw[Rd.name_f]at e0;replace HQ:=S e0;clear e0;have hkl:=HK.1.lt;have hx3:=HK.1.blk.cell' 3 rfl;cases hr6:AD l j0 with
  |out=>exact absurd (by rw[<-HQ.1,hr6];rfl) HO.1
  | bad q6=>
    go_wp2_with fail;go_region_with(go_at_call 247;refine(B7 (hp.gbN (Ad (Aa _ none))) HSh.1).mono ?_;rintro e w6 hq6;rw[hr6]at hq6;obtain⟨g6,rfl⟩:=hq6;refine Bt (P:=Tryz.prog) ⟨rfl,Post.bad (Z (Ad HK.1.gr) g6) (by rw[<-HQ.1,hr6];rfl)⟩ ⟨#[],[]⟩ w6 ?_);all_goals trivial
  |ok s j1=>
  rw[hr6,Res.bind_ok,Rd.must_f]at HQ;go_upto_region 0 with fail;go_cut []from 4 to 14 (λwx=>(∃pv' xv',KA b w L wx 13 wd [] (a.1++[s]) a.2 .nil pv' xv' (.slice none 0 0))/\Par wx b tv wo l wordsL j1)
  case first=>
   obtain⟨i0,hi0,hz0,hz1,hz2⟩:=info_parts Fp;have HI:=S (X hi0 (X hz0 (X hz1 hz2)));have hroom:=(show a.1.length<=200000 by omega);have hbL:=HK.1.bL;have hwL:=HK.1.wL;clear hi0 hz0 hz1 hz2;go_region_law(first
    | (refine step_append_lies _ (by rfl) _ _ 37 (by rfl) (w.heap.size+1) 9 i0 _ 1 16 underlying37 HI.1.1 HI.1.2.1 HI.1.2.2.1 HI.1.2.2.2 rfl (by decide) _ _ _ (by rfl) HB.1.1.p ⟨w6.heap.size,0,none⟩ 1 1 [str s] (by rfl) rfl (EV _ _ _) (by simp[Value.oneCell']) (by decide) (by unfold maxLen;omega) (by omega) (by simp<;>omega) _ rfl ?_;intro j cap w7 hown hgrow hat hlt;(have HK8:=S (X (HB.1.1.addP' hown hgrow hat) (Par.app HB.1.2 hgrow (λq hq=>(HB.1.1.belowP q hq).1) hbL 3 (.slice (some ⟨j,0,none⟩) (a.1.length+1) cap))));(have hb7:=HB.1.1.blk.gb hgrow HB.1.1.neP);(have f7:=hb7.frozen 3);(have d7:=hb7.cell' 3 rfl);(have l7:=hb7.lt);clear hown hgrow hat hb7 HB)
    | (go_simp;go_at_call 247;refine(B7 (hp.drewN 1) HSh.1).mono ?_;rintro e w6 hq6;rw[hr6]at hq6;obtain⟨g6,v,rfl,rfl,h6⟩:=hq6;(have k6:=HK.1.gb (Z (Ad (Aa _ _)) g6));(have l6:=k6.lt);(have d6:=k6.blk.cell' 3 rfl);(have s6:=g6.size);(have HB:=S (X (k6.alloc (.cells #[str s] 9 (0,0))) (h6.alloc (.cells #[str s] 9 (0,0)))));clear k6 h6 g6))
   all_goals
    go_wp2_with fail;go_meet
    case rel=>exact⟨⟨_,_,HK8.1.1⟩,HK8.1.2⟩
  case rest=>
  obtain⟨⟨pv2,xv2,hK⟩,hp1⟩:=hcut;replace HK:=S hK;replace hp:=hp1;clear hK hp1 hx3 hr6;have hkl:=HK.1.lt;go_wp2_with fail;refine(BK hp HTk.1 GQ (by decide)).mono ?_;intro e w9 hq;obtain⟨g,⟨q,hr,rfl⟩| ⟨u,j2,v,hr,rfl,rfl,hp9⟩⟩:=hq.split
  ·exact⟨rfl,Post.bad (Z HK.1.gr g) (by rw[<-HQ.1,hr];rfl)⟩
  replace HK:=S (HK.1.gb g);replace hp:=hp9;clear hp9;rw[hr,Res.bind_ok]at HQ;clear hr g;rw[Rd.expr_f]at HQ;have hkl:=HK.1.lt;have hx4:=HK.1.blk.cell' 4 rfl;cases hr6:Ak l day n j2 with
  |out=>exact absurd (by rw[<-HQ.1,hr6];rfl) HO.1
  | bad q6=>
    go_wp2_with fail;obtain⟨i0,hi0,hz0,hz1,hz2⟩:=info_parts CJ;have HI:=S (X hi0 (X hz0 (X hz1 hz2)));obtain⟨xa9,xc9,e9⟩:=HK.1.shapeX
    (first|subst e9|cases e9|clear e9);have hbL:=HK.1.bL;have hwL:=HK.1.wL;have hkl:=HK.1.lt;have hx4:=HK.1.blk.cell' 4 rfl;have n0:(0:Int)<=((a.2).len:Int):=by omega
    have n1:((a.2).len:Int)<(((a.2).len+1:Nat):Int):=by omega
    have n2:((a.2).len:Int)<((a.2).len:Int)+1:=by omega
    have kA:=(HK.1.gbN (Ad (Aa w9 none))).alloc (.cells zeroE.toArray 163 (0,0));obtain⟨csA,hoA,hrA⟩:=kA.x;have HA1:=S (X kA (X hoA (X hrA ((hp.drewN 1).alloc (.cells zeroE.toArray 163 (0,0))))));clear hi0 hz0 hz1 hz2 kA hoA hrA;go_region_law(first
     | (refine step_append_lies _ (by rfl) _ _ 129 (by rfl) ((w).heap.size+1) 163 i0 _ 7 104 underlying129 HI.1.1 HI.1.2.1 HI.1.2.2.1 HI.1.2.2.2 rfl (by decide) _ _ csA (by rfl) HA1.1.2.1 ⟨(w9).heap.size,0,none⟩ 1 1 zeroE (by rfl) rfl (AP _ _ _) (by simp[zeroE,Value.oneCell']) (by decide) (by unfold maxLen;omega) (by omega) (by first|omega| (simp<;>omega)) _ rfl ?_;intro j cap w7 hown hgrow hat hlt;(have HP1:=S (X (HA1.1.1.pend rfl HA1.1.2.1 HA1.1.2.2.1 hown hgrow hat) (HA1.1.2.2.2.gb hgrow (λq hq=>(HA1.1.1.belowX q hq).1))));(have f7:=(HA1.1.1.blk.gb hgrow HA1.1.1.neX).frozen 4);(have d7:=(HA1.1.1.blk.gb hgrow HA1.1.1.neX).cell' 4 rfl);(have l7:=HP1.1.1.lt);(have s7:=hgrow.size);(have bj7:=HP1.1.1.bj);clear hown hgrow hat)
     | (go_simp;go_at_call 208;refine(HE.1 _ _ HP1.1.2 (by rw[hr6];simp)).mono ?_;rintro e w8 hq8;rw[hr6]at hq8;obtain⟨g8,rfl⟩:=hq8;refine Bt (P:=Tryz.prog) ⟨rfl,Post.bad (Z HP1.1.1.gr g8) (by rw[<-HQ.1,hr6];rfl)⟩ ⟨#[],[]⟩ w8 ?_)
     | (go_simp;go_at_call 208;refine(HE.1 _ _ (HP1.1.2.gb (Ai (Aa w7 (some L)) 4 (.slice (some ⟨j,0,none⟩) ((a.2).len+1) cap)) (by intro q e;cases e;omega)) (by rw[hr6];simp)).mono ?_;rintro e w8 hq8;rw[hr6]at hq8;obtain⟨g8,rfl⟩:=hq8;refine Bt (P:=Tryz.prog) ⟨rfl,Post.bad (Z (HP1.1.1.put4 (.slice (some ⟨j,0,none⟩) ((a.2).len+1) cap)).gr g8) (by rw[<-HQ.1,hr6];rfl)⟩ ⟨#[],[]⟩ w8 ?_)
     | (go_simp;go_at_call 208;refine(HE.1 _ _ (hp.drewN 1) (by rw[hr6];simp)).mono ?_;rintro e w8 hq8;rw[hr6]at hq8;obtain⟨g8,rfl⟩:=hq8;refine Bt (P:=Tryz.prog) ⟨rfl,Post.bad (Z (Ad HK.1.gr) g8) (by rw[<-HQ.1,hr6];rfl)⟩ ⟨#[],[]⟩ w8 ?_)
     | (go_simp;go_at_call 208;refine(HE.1 _ _ HA1.1.2.2.2 (by rw[hr6];simp)).mono ?_;rintro e w8 hq8;rw[hr6]at hq8;obtain⟨g8,rfl⟩:=hq8;refine Bt (P:=Tryz.prog) ⟨rfl,Post.bad (Z HA1.1.1.gr g8) (by rw[<-HQ.1,hr6];rfl)⟩ ⟨#[],[]⟩ w8 ?_))
    all_goals trivial
  |ok x j3=>
  rw[hr6,Res.bind_ok,Rd.pure_f,Res.bind_ok,Rd.bind_f]at HQ;go_upto_region 2 with fail;go_cut []from 17 to 28 (λwx=>(∃xv',KA b w L wx 13 wd [] (a.1++[s]) (a.2.snoc x) .nil pv2 xv' (.slice none 0 0))/\Par wx b tv wo l wordsL j3)
  case first=>
   obtain⟨i0,hi0,hz0,hz1,hz2⟩:=info_parts CJ;have HI:=S (X hi0 (X hz0 (X hz1 hz2)));have hroom:=(show a.2.len<=200000 by omega);obtain⟨xa9,xc9,e9⟩:=HK.1.shapeX
   (first|subst e9|cases e9|clear e9);have hbL:=HK.1.bL;have hwL:=HK.1.wL;have hkl:=HK.1.lt;have hx4:=HK.1.blk.cell' 4 rfl;have n0:(0:Int)<=((a.2).len:Int):=by omega
   have n1:((a.2).len:Int)<(((a.2).len+1:Nat):Int):=by omega
   have n2:((a.2).len:Int)<((a.2).len:Int)+1:=by omega
   have HFr:=S (λq hq=>HK.1.fresh q hq);have kA:=(HK.1.gbN (Ad (Aa w9 none))).alloc (.cells zeroE.toArray 163 (0,0));obtain⟨csA,hoA,hrA⟩:=kA.x;have HA1:=S (X kA (X hoA (X hrA ((hp.drewN 1).alloc (.cells zeroE.toArray 163 (0,0))))));clear hi0 hz0 hz1 hz2 kA hoA hrA;go_region_law(first
    | (refine step_append_lies _ (by rfl) _ _ 129 (by rfl) ((w).heap.size+1) 163 i0 _ 7 104 underlying129 HI.1.1 HI.1.2.1 HI.1.2.2.1 HI.1.2.2.2 rfl (by decide) _ _ csB (by rfl) HA2.1.2.1 _ 1 1 zeroE (by rfl) rfl HZ2.1 (by simp[zeroE,Value.oneCell']) (by decide) (by unfold maxLen;omega) (by omega) (by first|omega| (simp<;>omega)) _ rfl ?_;intro j cap w7 hown hgrow hat hlt;(have HPF:=S (X (HA2.1.1.pend rfl HA2.1.2.1 HA2.1.2.2.1 hown hgrow hat) (HA2.1.2.2.2.1.gb hgrow (λq hq=>(HA2.1.1.belowX q hq).1))));(have HVF:=S (JT (f:=a.2) (cap:=cap) HA2.1.2.2.2.2.1 HA2.1.2.2.2.2.2 (λq hq _=>hq) HFr.1 hgrow hat));(have f7:=(HA2.1.1.blk.gb hgrow HA2.1.1.neX).frozen 4);(have d7:=(HA2.1.1.blk.gb hgrow HA2.1.1.neX).cell' 4 rfl);(have l7:=HPF.1.1.lt);(have bj7:=HPF.1.1.bj);(have nj7:=HPF.1.1.neL);(have fe7:=λi=>HPF.1.1.frozenE i);(obtain⟨u70,e70⟩:=HPF.1.1.cellE 0 (by decide));(obtain⟨u71,e71⟩:=HPF.1.1.cellE 1 (by decide));(obtain⟨u72,e72⟩:=HPF.1.1.cellE 2 (by decide));(obtain⟨u73,e73⟩:=HPF.1.1.cellE 3 (by decide));(obtain⟨u74,e74⟩:=HPF.1.1.cellE 4 (by decide));(obtain⟨u75,e75⟩:=HPF.1.1.cellE 5 (by decide));(obtain⟨u76,e76⟩:=HPF.1.1.cellE 6 (by decide));(try simp only[Nat.add_zero]at e70);clear hown hgrow hat)
    | (refine step_append_lies _ (by rfl) _ _ 129 (by rfl) ((w).heap.size+1) 163 i0 _ 7 104 underlying129 HI.1.1 HI.1.2.1 HI.1.2.2.1 HI.1.2.2.2 rfl (by decide) _ _ csA (by rfl) HA1.1.2.1 ⟨(w9).heap.size,0,none⟩ 1 1 zeroE (by rfl) rfl (AP _ _ _) (by simp[zeroE,Value.oneCell']) (by decide) (by unfold maxLen;omega) (by omega) (by first|omega| (simp<;>omega)) _ rfl ?_;intro j cap w7 hown hgrow hat hlt;(have HP1:=S (X (HA1.1.1.pend rfl HA1.1.2.1 HA1.1.2.2.1 hown hgrow hat) (HA1.1.2.2.2.gb hgrow (λq hq=>(HA1.1.1.belowX q hq).1))));(have f7:=(HA1.1.1.blk.gb hgrow HA1.1.1.neX).frozen 4);(have d7:=(HA1.1.1.blk.gb hgrow HA1.1.1.neX).cell' 4 rfl);(have l7:=HP1.1.1.lt);(have s7:=hgrow.size);(have bj7:=HP1.1.1.bj);clear hown hgrow hat)
    | (go_simp;go_at_call 208;refine(HE.1 _ _ HP1.1.2 (by rw[hr6];simp)).mono ?_;rintro e w8 hq6;rw[hr6]at hq6;obtain⟨g8,v,rfl,⟨pa6,pc6,la6,lc6,rfl,q1,q2⟩,h8⟩:=hq6;(have hKP:=HP1.1.1.gb g8);(have HPF:=S (X hKP h8));(have HVF:=S (X (q1.mono (λq hq _=>HP1.1.1.fresh q hq)) (q2.mono (λq hq _=>HP1.1.1.fresh q hq))));(have f8:=hKP.blk.frozen 4);(have d8:=hKP.blk.cell' 4 rfl);(have l8:=hKP.lt);(have bj8:=hKP.bj);(have nj8:=hKP.neL);(have fe8:=λi=>HPF.1.1.frozenE i);(obtain⟨u70,e70⟩:=HPF.1.1.cellE 0 (by decide));(obtain⟨u71,e71⟩:=HPF.1.1.cellE 1 (by decide));(obtain⟨u72,e72⟩:=HPF.1.1.cellE 2 (by decide));(obtain⟨u73,e73⟩:=HPF.1.1.cellE 3 (by decide));(obtain⟨u74,e74⟩:=HPF.1.1.cellE 4 (by decide));(obtain⟨u75,e75⟩:=HPF.1.1.cellE 5 (by decide));(obtain⟨u76,e76⟩:=HPF.1.1.cellE 6 (by decide));(try simp only[Nat.add_zero]at e70);clear hKP q1 q2 g8 h8)
    | (go_simp;go_at_call 208;refine(HE.1 _ _ (HP1.1.2.gb (Ai (Aa w7 (some L)) 4 (.slice (some ⟨j,0,none⟩) ((a.2).len+1) cap)) (by intro q e;cases e;omega)) (by rw[hr6];simp)).mono ?_;rintro e w8 hq6;rw[hr6]at hq6;obtain⟨g8,v,rfl,⟨pa6,pc6,la6,lc6,rfl,q1,q2⟩,h8⟩:=hq6;(have hKP:=(HP1.1.1.put4 (.slice (some ⟨j,0,none⟩) ((a.2).len+1) cap)).gb g8);(have HPF:=S (X hKP h8));(have HVF:=S (X (q1.mono (λq hq _=>(HP1.1.1.put4 (.slice (some ⟨j,0,none⟩) ((a.2).len+1) cap)).fresh q hq)) (q2.mono (λq hq _=>(HP1.1.1.put4 (.slice (some ⟨j,0,none⟩) ((a.2).len+1) cap)).fresh q hq))));(have bj8:=hKP.bj);(have nj8:=hKP.neL);(have l8:=hKP.lt);(have fe8:=λi=>HPF.1.1.frozenE i);(obtain⟨u70,e70⟩:=HPF.1.1.cellE 0 (by decide));(obtain⟨u71,e71⟩:=HPF.1.1.cellE 1 (by decide));(obtain⟨u72,e72⟩:=HPF.1.1.cellE 2 (by decide));(obtain⟨u73,e73⟩:=HPF.1.1.cellE 3 (by decide));(obtain⟨u74,e74⟩:=HPF.1.1.cellE 4 (by decide));(obtain⟨u75,e75⟩:=HPF.1.1.cellE 5 (by decide));(obtain⟨u76,e76⟩:=HPF.1.1.cellE 6 (by decide));(try simp only[Nat.add_zero]at e70);clear hKP q1 q2 g8 h8)
    | (go_simp;go_at_call 208;refine(HE.1 _ _ (hp.drewN 1) (by rw[hr6];simp)).mono ?_;rintro e w6 hq6;rw[hr6]at hq6;obtain⟨g6,v,rfl,⟨pa6,pc6,la6,lc6,rfl,q1,q2⟩,h6⟩:=hq6;(have k6:=HK.1.gb (Z (Ad (Aa _ _)) g6));(have l6:=k6.lt);(have s6:=g6.size);(have d6:=k6.blk.cell' 4 rfl);(have k7:=k6.alloc (.cells zeroE.toArray 163 (0,0)));(obtain⟨csB,ho6,hr7⟩:=k7.x);(have gA:=gZ w6 (.cells zeroE.toArray 163 (0,0)) none);(have HA2:=S (X k7 (X ho6 (X hr7 (X (h6.alloc (.cells zeroE.toArray 163 (0,0))) (X (q1.gb gA (by simp)) (q2.gb gA (by simp))))))));(have HZ2:=S (AP w6 zeroE 163));clear k6 k7 ho6 hr7 gA q1 q2 h6 g6)
    | (go_simp;go_at_call 208;refine(HE.1 _ _ HA1.1.2.2.2 (by rw[hr6];simp)).mono ?_;rintro e w6 hq6;rw[hr6]at hq6;obtain⟨g6,v,rfl,⟨pa6,pc6,la6,lc6,rfl,q1,q2⟩,h6⟩:=hq6;(have k6:=HA1.1.1.gb g6);(have l6:=k6.lt);(have s6:=g6.size);(have d6:=k6.blk.cell' 4 rfl);(obtain⟨csB,ho6,hr7⟩:=k6.x);(have HA2:=S (X k6 (X ho6 (X hr7 (X h6 (X (q1.mono (ok':=An (w9).heap.size) (λq hq _=>Nat.le_of_succ_le (by simpa using hq))) (q2.mono (ok':=An (w9).heap.size) (λq hq _=>Nat.le_of_succ_le (by simpa using hq)))))))));(have HZ2:=S (show ∀i u,zeroE[i]? =some u->w6.cell? ((⟨(w9).heap.size,0,none⟩:Addr).add i)=some u from λi u hu=>KV (((Blk.new (World.drew w9) zeroE 163).gb g6 (by simp;omega)).cell' i hu)));clear k6 ho6 hr7 q1 q2 h6 g6))
   all_goals
    go_wp2_with fail;go_meet
    case rel=>
     show(∃xv',KA b w L _ 13 wd [] (a.1++[s]) (a.2.snoc x) .nil pv2 xv' (.slice none 0 0))/\Par _ b tv wo l wordsL j3;have hE1:=HPF.1.1.endQ1 HPF.1.2 HVF.1.1 HVF.1.2;have hE2:=HPF.1.1.endQ2 HPF.1.2 HVF.1.1 HVF.1.2;simp only[D6]at hE1 hE2;first
     |exact⟨⟨_,by with_reducible exact hE1.1⟩,by with_reducible exact hE1.2⟩
     |exact⟨⟨_,by with_reducible exact hE2.1⟩,by with_reducible exact hE2.2⟩
  case rest=>
  obtain⟨⟨xv3,hK⟩,hp1⟩:=hcut;replace HK:=S hK;replace hp:=hp1;clear hK hp1 hx4 hr6;generalize hWW:wc=W8 at*;clear hWW;cases m with
  |zero=>exact absurd HQ.1.symm HO.1
  |succ m=>
  rw[Rd.moreS_f]at HQ;have hkl:=HK.1.lt;cases hs:Ah (Ab l j3) [44]with
  | true=>
    go_wp2_with fail;refine(Bm hp [44] hs).mono ?_;rintro e w12 ⟨rfl,hp9,g⟩;replace HK:=S (HK.1.gb g);replace hp:=hp9;clear g hp9;rw[if_pos hs]at HQ;clear hs;rw[Rd.bind_f,Res.bind_assoc]at HQ;go_wp2;go_roundg (m+1)
    case measure=>omega
    case rel=>exact .inl ⟨(a.1++[s],a.2.snoc x),_,m,rfl,⟨_,_,HK.1⟩,hp,by simp;omega,by simp[Fo.len_snoc];omega,HQ.1⟩
  | false=>
    go_wp2_with fail;refine mR (Bb hp [44] hs) λw12 g=>?_;replace HK:=S (HK.1.gbN g);replace hp:=hp.gbN g;clear g;rw[if_neg (nF hs)]at HQ;clear hs;rw[Res.bind_ok,Rd.bind_f]at HQ;replace HK:=S HK.1.toKS;go_wp2_with fail;have hkl:=HK.1.lt;have hwL:=HK.1.wL;have hbw:=HK.1.bw;refine(Gy hn HE.1 HTk.1 hp (λe=>HO.1 (by rw[<-HQ.1,e];rfl))).mono ?_;intro e w20 hq;obtain⟨g20,⟨q,hr,rfl⟩| ⟨c,j20,v,hr,rfl,⟨na,fa,wa,nc,fc,wc,rfl,rn,rf,rw0⟩,h20⟩⟩:=hq.split
    ·exact⟨rfl,Post.bad (Z HK.1.gr g20) (by rw[<-HQ.1,hr];rfl)⟩
    rw[hr,Res.bind_ok]at HQ;clear hr;have hK20:=HK.1.gb g20;have hkl20:=hK20.lt;have d6:=hK20.blk.cell' 6 rfl;have d7:=hK20.blk.cell' 7 rfl;have d8:=hK20.blk.cell' 8 rfl;have d9:=hK20.blk.cell' 9 rfl;have ff:=λi=>hK20.blk.frozen i;have hfr:∀q,An (w12).heap.size q->q<w20.heap.size->but w L q:=λq hq _=>by have h1:(w12).heap.size<=q:=hq;(try simp at h1);exact⟨by omega,by omega⟩
    have HK20:=S (hK20.putC (rn.mono hfr) (rf.mono hfr) (rw0.mono hfr) _ rfl);have HP20:=S (h20.putC (L:=L) (by omega) (.int .i64 c.kind) (.slice na c.n.len nc) (.slice fa c.f.len fc) (.slice wa c.w.len wc));clear hK20 g20 h20 rn rf rw0 hfr HK hp;rw[Rd.pure_f]at HQ;go_wp2;go_end0;exact Post.ok HK20.1.gr HQ.1.symm ⟨rfl,_,_,_,_,_,HK20.1⟩ HP20.1
end
variable{w:World}{b i n m k:Nat}{tv wo v:Value}{l:List Tok}{day:Bs->Int}{L:Array Bool}{op:Int}{s:Bs}{f:Fo}{x y:Ex}{opnd E:Nat->Res Ex}
def Rd.list_f0(hn:Al l):(GO hn day n).f i=Dd l (Ak l day n) n i:=rfl
def JZ(l:List Tok)(day:Bs->Int)(n:Nat):FO (Ak l day n):=MX l day n
def Et{w0 w1:World}{s:StB}{r:Res StB}(hb:b<w.heap.size)(hz:Blk w0 w.heap.size (stC 0 (.slice none 0 0)) 134)(g0:w.grownBy w0 (some b))(g:w0.grownBy w1 (some b))(hv:StV (An w0.heap.size) w1 v s)(hp:Par w1 b tv wo l wordsL i)(hr:r= .ok s i):
 ∃pa xa ba na fa wa,∃pc xc bc nc fc wc,v= .agg #[.int .i64 s.1.op,str s.1.s,str s.1.t,.slice pa s.1.p.length pc,.slice xa s.1.x.len xc,.slice ba s.2.len bc,.int .i64 s.1.kind,.slice na s.1.n.len nc,.slice fa s.1.f.len fc,.slice wa s.1.w.len wc]/\
  Blk w1 w.heap.size (stC 0 (.slice none 0 0)) 134/\
  Post b tv wo l wordsL w (VSt w) r (.returned v) (set10 w1 w.heap.size (.int .i64 s.1.op) (str s.1.s) (str s.1.t) (.slice pa s.1.p.length pc) (.slice xa s.1.x.len xc) (.slice ba s.2.len bc) (.int .i64 s.1.kind) (.slice na s.1.n.len nc) (.slice fa s.1.f.len fc) (.slice wa s.1.w.len wc))/\
  Blk (set10 w1 w.heap.size (.int .i64 s.1.op) (str s.1.s) (str s.1.t) (.slice pa s.1.p.length pc) (.slice xa s.1.x.len xc) (.slice ba s.2.len bc) (.int .i64 s.1.kind) (.slice na s.1.n.len nc) (.slice fa s.1.f.len fc) (.slice wa s.1.w.len wc)) w.heap.size
   (sdC s.1 (.slice pa s.1.p.length pc) (.slice xa s.1.x.len xc) (.slice ba s.2.len bc) (.slice na s.1.n.len nc) (.slice fa s.1.f.len fc) (.slice wa s.1.w.len wc)) 134:=by
 obtain⟨pa,xa,na,fa,wa,ba,pc,xc,nc,fc,wc,bc,rfl,h1,h2⟩:=hv;have hz1:=hz.gb g (by simp;omega);have hlt:=hz.lt;have g10:=DW w1 w.heap.size (.int .i64 s.1.op) (str s.1.s) (str s.1.t) (.slice pa s.1.p.length pc) (.slice xa s.1.x.len xc) (.slice ba s.2.len bc) (.int .i64 s.1.kind) (.slice na s.1.n.len nc) (.slice fa s.1.f.len fc) (.slice wa s.1.w.len wc);have hne:∀q,An w0.heap.size q->q<w1.heap.size->some q≠some w.heap.size:=λq hq _ e=>by cases e;have:w0.heap.size<=w.heap.size:=hq;omega
 have hm:∀q,An w0.heap.size q->An w.heap.size q:=λq hq=>by have:w0.heap.size<=q:=hq;show w.heap.size<=q;omega
 have h3:=h1.gb g10 hne;refine⟨pa,xa,ba,na,fa,wa,pc,xc,bc,nc,fc,wc,rfl,hz1,Post.ok (Aq (Z g0 g) g10 (.inr (nR _))) hr ?_ (hp.gb g10 (by intro q e;cases e;omega)),hz1.set10 _ _ _ _ _ _ _ _ _ _⟩;exact⟨pa,xa,na,fa,wa,ba,pc,xc,nc,fc,wc,bc,rfl,⟨h3.p.mono λq hq _=>hm q hq,h3.x.mono λq hq _=>hm q hq,h3.n.mono λq hq _=>hm q hq,h3.f.mono λq hq _=>hm q hq,h3.w.mono λq hq _=>hm q hq⟩,RepV.mono' (h2.gb g10 hne) λq hq _=>hm q hq⟩
def Y7{block:Rd l Bl}(hn:Al l)(hnn:n<=100000)(hB:CQB b tv wo l block.f)(hE:CE 208 b tv wo l wordsL (Ak l day n))(hok:∀i,At (Ab l i))(hl:A0 l)(hg:Glob w)(hgb:4<b)(h:Par w b tv wo l wordsL i)(ho:(doP hn wordsL day n block).f i ≠ .out):
 Calls Tryz.prog 325 #[.pointer (some ⟨b,0,none⟩)] w (Post b tv wo l wordsL w (VSt w) ((doP hn wordsL day n block).f i)):=by
 have hb:=h.lt;have HO:=S ho;generalize hR:(doP hn wordsL day n block).f i=R at*;unfold doP at hR;rw[Rd.ifw_f]at hR;have HQ:=S hR;have HBk:=S hB;have HE:=S hE;have HTk:=S hok;have HSh:=S hl;have HGl:=S (X hg hgb);have HZ:=S (X (Blk.new w (stC 0 (.slice none 0 0)) 134) (show w.grownBy (w.alloc (.cells (stC 0 (.slice none 0 0)).toArray 134 (0,0))) (some b)from Ac (Aa _ _) _));have hp:=h.alloc (.cells (stC 0 (.slice none 0 0)).toArray 134 (0,0));clear hB hE hok hl hg hgb h ho hR;go_enter func325,ntmps325;cases hw:As l wordsL i==EZ with
 | true=>
   go_wp2_with fail;refine(Dj hp HTk.1 EZ (by decide) hw).mono ?_;rintro e w1 ⟨rfl,hp9,g⟩;replace HZ:=S (X (HZ.1.1.gb g (by simp;omega)) (Z HZ.1.2 g));replace hp:=hp9;clear g hp9;rw[if_pos hw]at HQ;clear hw;rw[Rd.fin_f]at HQ;go_wp2_with fail;refine(AY hp).mono ?_;intro e w2 hq;obtain⟨g,⟨q,hr,rfl⟩| ⟨u,i2,v,hr,rfl,rfl,hp9⟩⟩:=hq.split
   ·exact⟨rfl,Post.bad (Z HZ.1.2 g) (by rw[<-HQ.1,hr];rfl)⟩
   replace HZ:=S (X (HZ.1.1.gb g (by simp;omega)) (Z HZ.1.2 g));replace hp:=hp9;clear hp9;rw[hr,Res.bind_ok]at HQ;clear hr g;rw[Rd.must_f]at HQ;go_wp2_with fail;refine(BK hp HTk.1 EZ (by decide)).mono ?_;intro e w3 hq;obtain⟨g,⟨q,hr,rfl⟩| ⟨u,i3,v,hr,rfl,rfl,hp9⟩⟩:=hq.split
   ·exact⟨rfl,Post.bad (Z HZ.1.2 g) (by rw[<-HQ.1,hr];rfl)⟩
   replace HZ:=S (X (HZ.1.1.gb g (by simp;omega)) (Z HZ.1.2 g));replace hp:=hp9;clear hp9;rw[hr,Res.bind_ok]at HQ;clear hr g;have hl3:=HZ.1.1.lt;have HC:=S (Md (more:=EZ) (other:=JW) (last:=Lb) hn hnn HBk.1 HE.1 HTk.1 (BW HGl.1.1 HGl.1.2 HZ.1.2) HGl.1.2 (by decide) (by decide) (by decide) hp (λe=>HO.1 (by rw[<-HQ.1,e])));go_wp2_with fail;refine HC.1.mono ?_;intro e w4 hq;obtain⟨g,⟨q,hr,rfl⟩| ⟨s9,j9,v,hr,rfl,hv,hp9⟩⟩:=hq.split
   ·exact⟨rfl,Post.bad (Z HZ.1.2 g) (by rw[<-HQ.1,hr])⟩
   obtain⟨pa,xa,ba,na,fa,wa,pc,xc,bc,nc,fc,wc,rfl,hz9,hpp,hbk⟩:=Et hb HZ.1.1 HZ.1.2 g hv hp9 (HQ.1.symm.trans hr);have HE9:=S (X hpp hbk);have hkl9:=hz9.lt;have cz_:=hz9.c10;clear g hv hp9 hz9 hpp hbk hr;go_wp2;refine bZ ?hr9 rfl HE9.1.1
   case hr9=>exact A8 rfl _ HE9.1.2 rfl rfl
 | false=>
   go_wp2_with fail;refine mR (Dh hp HTk.1 EZ hw) λw1 g=>?_;replace HZ:=S (X (HZ.1.1.gb g (by simp)) (Ag HZ.1.2 g));replace hp:=hp.gbN g;clear g;rw[if_neg (nF hw)]at HQ;clear hw;rw[Rd.ifw_f]at HQ;cases hw:As l wordsL i==Eh with
   | true=>
     go_wp2_with fail;refine(Dj hp HTk.1 Eh (by decide) hw).mono ?_;rintro e w2 ⟨rfl,hp9,g⟩;replace HZ:=S (X (HZ.1.1.gb g (by simp;omega)) (Z HZ.1.2 g));replace hp:=hp9;clear g hp9;rw[if_pos hw]at HQ;clear hw;rw[Rd.bind_f]at HQ;have hl2:=HZ.1.1.lt;have hs2:=HZ.1.2.size;have HK:=S (KA.start (o:=4) HZ.1.1 HZ.1.2 hb (by omega) []);have hp3:=hp.alloc (.cells #[.int .i64 4,str [],str [],.slice none 0 0,.slice none 0 0,.slice none 0 0,.int .i64 0,.slice none 0 0,.slice none 0 0,.slice none 0 0] 134 (0,0));replace hp:=hp3;clear hp3 HZ;go_wp2_with fail;refine(Ky (a:=(.nil,.nil)) hn HBk.1 HE.1 HGl.1.1 HGl.1.2 HK.1 (by simp[Fo.len]) (by simp[Bl.len]) hp (λe=>HO.1 (by rw[<-HQ.1,e];rfl))).mono ?_;intro e w3 hq;obtain⟨g,⟨q,hr,rfl⟩| ⟨a,i3,v,hr,rfl,⟨rfl,pv9,xv9,bv9,hK9⟩,hp9⟩⟩:=hq.split
     ·exact⟨rfl,Post.bad g (by rw[<-HQ.1,hr];rfl)⟩
     replace HK:=S hK9;replace hp:=hp9;have HA:=S (KN hr);rw[hr,Res.bind_ok]at HQ;clear hr hK9 hp9 g;rw[Rd.must_f]at HQ;go_wp2_with fail;refine(BK hp HTk.1 L3 (by decide)).mono ?_;intro e w4 hq;obtain⟨g,⟨q,hr,rfl⟩| ⟨u,i4,v,hr,rfl,rfl,hp9⟩⟩:=hq.split
     ·exact⟨rfl,Post.bad (Z HK.1.gr g) (by rw[<-HQ.1,hr];rfl)⟩
     replace HK:=S (HK.1.gb g);replace hp:=hp9;clear hp9;rw[hr,Res.bind_ok]at HQ;clear hr g;rw[Rd.fin_f]at HQ;go_wp2_with fail;refine(AY hp).mono ?_;intro e w5 hq;obtain⟨g,⟨q,hr,rfl⟩| ⟨u,i5,v,hr,rfl,rfl,hp9⟩⟩:=hq.split
     ·exact⟨rfl,Post.bad (Z HK.1.gr g) (by rw[<-HQ.1,hr];rfl)⟩
     replace HK:=S (HK.1.gb g);replace hp:=hp9;clear hp9;rw[hr,Res.bind_ok]at HQ;clear hr g;rw[Rd.pure_f]at HQ;replace HK:=S HK.1.toKS;obtain⟨pa9,xa9,ba9,na9,fa9,wa9,pc9,xc9,bc9,nc9,fc9,wc9,e91,e92,e93,e94,e95,e96⟩:=HK.1.shapes
     (first|cases e91|clear e91);(first|cases e92|clear e92);(first|cases e93|clear e93);(first|cases e94|clear e94);(first|cases e95|clear e95);(first|cases e96|clear e96);have hkb:=HK.1.blk;have hkz:=HK.1.zero;have hkl:=hkb.lt;have hkl2:=hkz.lt;have ck_:=hkb.c10;have cz_:=hkz.c10;clear hkb hkz;go_wp2;have hres9:=C1 HK.1 hp HQ.1.symm;have hblk9:=HK.1.out.2.2.1;refine bZ ?hr9 rfl hres9
     case hr9=>exact A8 rfl _ hblk9 rfl rfl
   | false=>
     go_wp2_with fail;refine mR (Dh hp HTk.1 Eh hw) λw2 g=>?_;replace HZ:=S (X (HZ.1.1.gb g (by simp)) (Ag HZ.1.2 g));replace hp:=hp.gbN g;clear g;rw[if_neg (nF hw)]at HQ;clear hw;rw[Rd.name_f]at HQ;go_wp2_with fail;refine(B7 hp HSh.1).mono ?_;intro e w3 hq;obtain⟨g,⟨q,hr,rfl⟩| ⟨s,i3,v,hr,rfl,rfl,hp9⟩⟩:=hq.split
     ·exact⟨rfl,Post.bad (Z HZ.1.2 g) (by rw[<-HQ.1,hr];rfl)⟩
     replace HZ:=S (X (HZ.1.1.gb g (by simp;omega)) (Z HZ.1.2 g));replace hp:=hp9;clear hp9;rw[hr,Res.bind_ok]at HQ;clear hr;have hs3:=g.size;have hl3:=HZ.1.1.lt;have HK:=S (KA.start (o:=9) HZ.1.1 HZ.1.2 hb (by omega) s).toKS;have hp3:=hp.alloc (.cells #[.int .i64 9,str s,str [],.slice none 0 0,.slice none 0 0,.slice none 0 0,.int .i64 0,.slice none 0 0,.slice none 0 0,.slice none 0 0] 134 (0,0));replace hp:=hp3;clear g hp3 HZ;rw[Rd.bind_f,Rd.ifw_f]at HQ;have hkl:=HK.1.lt;cases hw:As l wordsL i3==GQ
     case' false=>
      go_wp2_with fail;refine mR (Dh hp HTk.1 GQ hw) λw4 g=>?_;replace HK:=S (HK.1.gbN g);replace hp:=hp.gbN g;clear g;rw[if_neg (nF hw)]at HQ;clear hw;rw[Rd.pure_f,Res.bind_ok,Rd.fin_f]at HQ;go_wp2_with fail;refine(AY hp).mono ?_;intro e w5 hq;obtain⟨g,⟨q,hr,rfl⟩| ⟨u,i5,v,hr,rfl,rfl,hp9⟩⟩:=hq.split
      ·exact⟨rfl,Post.bad (Z HK.1.gr g) (by rw[<-HQ.1,hr];rfl)⟩
     case' true=>
      go_wp2_with fail;refine(Dj hp HTk.1 GQ (by decide) hw).mono ?_;rintro e w4 ⟨rfl,hp9,g⟩;replace HK:=S (HK.1.gb g);replace hp:=hp9;clear g hp9;rw[if_pos hw]at HQ;clear hw;have hkl:=HK.1.lt;rw[Rd.list_f0]at HQ;go_wp2_with fail;refine(Jc HE.1 (JZ l day n) hp n (λe=>HO.1 (by rw[<-HQ.1,e];rfl))).mono ?_;intro e w5 hq;obtain⟨g,⟨q,hr,rfl⟩| ⟨f,i5,v,hr,rfl,⟨fa,fc,rfl,hF⟩,hp9⟩⟩:=hq.split
      ·exact⟨rfl,Post.bad (Z HK.1.gr g) (by rw[<-HQ.1,hr];rfl)⟩
      replace HK:=S (HK.1.gb g);replace hp:=hp9;clear hp9;rw[hr,Res.bind_ok]at HQ;clear hr;have hkl5:=HK.1.lt;have hwL:=HK.1.wL;have hbw:=HK.1.bw;have hx4:=HK.1.blk.cell' 4 rfl;have hf4:=HK.1.blk.frozen 4;have hK6:=HK.1.putX (hF.mono (λq hq _=>by have h1:w4.heap.size<=q:=hq;exact⟨by omega,by omega⟩));have hp6:=hp.set (L:=w3.heap.size) (by omega) 4 (.slice fa f.len fc);replace HK:=S hK6;replace hp:=hp6;clear hK6 hp6 hF g;rw[Rd.fin_f]at HQ;go_wp2_with fail;refine(AY hp).mono ?_;intro e w7 hq;obtain⟨g,⟨q,hr,rfl⟩| ⟨u,i7,v,hr,rfl,rfl,hp9⟩⟩:=hq.split
      ·exact⟨rfl,Post.bad (Z HK.1.gr g) (by rw[<-HQ.1,hr];rfl)⟩
     all_goals
      replace HK:=S (HK.1.gb g);replace hp:=hp9;clear hp9;rw[hr,Res.bind_ok]at HQ;clear hr g;rw[Rd.pure_f]at HQ;obtain⟨pa9,xa9,ba9,na9,fa9,wa9,pc9,xc9,bc9,nc9,fc9,wc9,e91,e92,e93,e94,e95,e96⟩:=HK.1.shapes;(first|cases e91|clear e91);(first|cases e92|clear e92);(first|cases e93|clear e93);(first|cases e94|clear e94);(first|cases e95|clear e95);(first|cases e96|clear e96);have hkb:=HK.1.blk;have hkz:=HK.1.zero;have hkl:=hkb.lt;have hkl2:=hkz.lt;have ck_:=hkb.c10;have cz_:=hkz.c10;clear hkb hkz;go_wp2;have hres9:=C1 HK.1 hp HQ.1.symm;have hblk9:=HK.1.out.2.2.1;refine bZ ?hr9 rfl hres9
      case hr9=>exact A8 rfl _ hblk9 rfl rfl
def Ei(e1 e2:Bs×Value):Bool->Bool->List (Bs×Value)->Prop
 |false,false,es=>es=[]
 |true,false,es=>es=[e1]
 |false,true,es=>es=[e2]
 |true,true,es=>es=[e1,e2]\/es=[e2,e1]
def Am(L:Array Bool)(i:Nat):Bool:=L.getD i false
def GK(b:Nat)(R:Bool->World->Prop):Prop:=∀c W W' o,R c W->W.grownBy W' o->(∀q,o=some q->b<q)->R c W'
structure LitW(b:Nat)(R:Bool->World->Prop)(W0:World)(x:Fo)(e1 e2:Bs×Value)(row:Value->List Value)(L:Array Bool)(m s:Nat)(v:Value)(W:World):Prop where
 g:W0.grownBy W (some b)
 r:R (Am L 7) W
 map:Am L 0=true->W0.heap.size<=m/\m<W.heap.size/\∃es,W.heap[m]? =some (AM es)/\Ei e1 e2 (Am L 1) (Am L 2) es
 val:Am L 7=true->RepL (λq=>W0.heap.size<=q/\(Am L 0=true->q≠m)/\(Am L 9=true->q≠s)) W v x
 new:Am L 9=true->W0.heap.size<=s/\s<W.heap.size/\(Am L 0=true->s≠m)/\Blk W s (if Am L 10 then row v else stC 0 (.slice none 0 0)) 134
def Fc(W:World)(m:Nat)(l:List (Bs×Value)):W.grownBy (DK W m l) (some m):=
 ⟨rfl,rfl,rfl,by rw[Hb];exact nR _,λk hk hne=>RP (λe=>hne (by rw[e])) l⟩
def Dw(hi:i<L.size)(j:Nat):Am (L.setIfInBounds i true) j=if j=i then true else Am L j:=by
 unfold Am;by_cases h:j=i
 ·subst h;simp[Array.getD_eq_getD_getElem?,hi]
 ·have h':¬i=j:=λe=>h e.symm;simp[Array.getD_eq_getD_getElem?,h,h']
section
variable {R:Bool->World->Prop}{W0:World}{x:Fo}{e1 e2:Bs×Value}{row:Value->List Value}{s:Nat}{W:World}
def LitW.make(hS:GK b R)(h:LitW b R W0 x e1 e2 row L m s v W)(hL:L.size=11)(h0:Am L 0=false)(h1:Am L 1=false)(h2:Am L 2=false):
 LitW b R W0 x e1 e2 row (L.setIfInBounds 0 true) W.heap.size s v (W.alloc (AM [])):=by
 have ht:=Dw (L:=L) (i:=0) (by omega);have hs:=h.g.size;refine⟨Ac h.g _,?_,λ_=>⟨hs,by simp,[],heap_alloc_new W _,?_⟩,λh7=>?_,λh9=>?_⟩
 ·have:=hS _ _ _ _ h.r (gZ W (AM []) none) (by simp);simpa[ht]using this
 ·simp[ht,h1,h2,Ei]
 ·simp only[ht]at h7 ⊢;have h7:Am L 7=true:=by simpa using h7
  exact(h.val h7).mono (ok':=λq=>W0.heap.size<=q/\q<W.heap.size/\(Am L 9=true->q≠s)) (λq hq hlt=>⟨hq.1,hlt,hq.2.2⟩)|>.gb (gZ W (AM []) none) (by simp)|>.mono (λq hq _=>⟨hq.1,λ_=>by omega,by simpa using hq.2.2⟩)
 ·simp only[ht]at h9 ⊢;have h9:Am L 9=true:=by simpa using h9
  obtain⟨a1,a2,a3,a4⟩:=h.new h9;exact⟨a1,by simp;omega,λ_=>by omega,by simpa using a4.gb (gZ W (AM []) none) (by simp)⟩
def LitW.alloc(hS:GK b R)(h:LitW b R W0 x e1 e2 row L m s v W)(hL:L.size=11)(h9:Am L 9=false)(h10:Am L 10=false):
 LitW b R W0 x e1 e2 row (L.setIfInBounds 9 true) m W.heap.size v (W.alloc (.cells (stC 0 (.slice none 0 0)).toArray 134 (0,0))):=by
 have ht:=Dw (L:=L) (i:=9) (by omega);have hs:=h.g.size;refine⟨Ac h.g _,?_,λh0=>?_,λh7=>?_,λ_=>⟨hs,by simp,λh0=>?_,?_⟩⟩
 ·have:=hS _ _ _ _ h.r (gZ W (.cells (stC 0 (.slice none 0 0)).toArray 134 (0,0)) none) (by simp);simpa[ht]using this
 ·simp only[ht]at h0 ⊢;obtain⟨a1,a2,es,a3,a4⟩:=h.map (by simpa using h0);exact⟨a1,by simp;omega,es,CL (gZ W _ none) a3 (by simp),by simpa using a4⟩
 ·simp only[ht]at h7 ⊢;have h7:Am L 7=true:=by simpa using h7
  exact(h.val h7).mono (ok':=λq=>W0.heap.size<=q/\q<W.heap.size/\(Am L 0=true->q≠m)) (λq hq hlt=>⟨hq.1,hlt,hq.2.1⟩)|>.gb (gZ W _ none) (by simp)|>.mono (λq hq _=>⟨hq.1,by simpa using hq.2.2,λ_=>by omega⟩)
 ·simp only[ht]at h0;have:=(h.map (by simpa using h0)).2.1;omega
 ·have:=Blk.new W (stC 0 (.slice none 0 0)) 134;simpa[ht,h10]using this
def LitW.ins1(hS:GK b R)(h:LitW b R W0 x e1 e2 row L m s v W)(hL:L.size=11)(hb:b<W0.heap.size)(h0:Am L 0=true)(hi:Am L 1=false):
 ∃es,W.heap[m]? =some (AM es)/\Ei e1 e2 (Am L 1) (Am L 2) es/\LitW b R W0 x e1 e2 row (L.setIfInBounds 1 true) m s v (DK W m (es++[e1])):=by
 have ht:=Dw (L:=L) (i:=1) (by omega);obtain⟨a1,a2,es,a3,a4⟩:=h.map h0;refine⟨es,a3,a4,Aq h.g (Fc W m _) (.inr a1),?_,λ_=>⟨a1,by rw[Hb];exact a2,_,Mc a2 _,?_⟩,λh7=>?_,λh9=>?_⟩
 ·have:=hS _ _ _ _ h.r (Fc W m (es++[e1])) (by intro q e;cases e;omega);simpa[ht]using this
 ·rw[hi]at a4;cases h2:Am L 2<;>simp[h2,Ei]at a4<;>subst a4<;>simp[ht,h2,Ei]
 ·simp only[ht]at h7 ⊢;have h7:Am L 7=true:=by simpa using h7
  have:=(h.val h7).gb (Fc W m (es++[e1])) (by intro q hq _ e;cases e;exact hq.2.1 h0 rfl);simpa using this
 ·simp only[ht]at h9 ⊢;have h9:Am L 9=true:=by simpa using h9
  obtain⟨c1,c2,c3,c4⟩:=h.new h9;exact⟨c1,by rw[Hb];exact c2,by simpa using c3,by simpa using c4.gb (Fc W m (es++[e1])) (by intro e;cases e;exact c3 h0 rfl)⟩
def LitW.ins2(hS:GK b R)(h:LitW b R W0 x e1 e2 row L m s v W)(hL:L.size=11)(hb:b<W0.heap.size)(h0:Am L 0=true)(hi:Am L 2=false):
 ∃es,W.heap[m]? =some (AM es)/\Ei e1 e2 (Am L 1) (Am L 2) es/\LitW b R W0 x e1 e2 row (L.setIfInBounds 2 true) m s v (DK W m (es++[e2])):=by
 have ht:=Dw (L:=L) (i:=2) (by omega);obtain⟨a1,a2,es,a3,a4⟩:=h.map h0;refine⟨es,a3,a4,Aq h.g (Fc W m _) (.inr a1),?_,λ_=>⟨a1,by rw[Hb];exact a2,_,Mc a2 _,?_⟩,λh7=>?_,λh9=>?_⟩
 ·have:=hS _ _ _ _ h.r (Fc W m (es++[e2])) (by intro q e;cases e;omega);simpa[ht]using this
 ·rw[hi]at a4;cases h2:Am L 1<;>simp[h2,Ei]at a4<;>subst a4<;>simp[ht,h2,Ei]
 ·simp only[ht]at h7 ⊢;have h7:Am L 7=true:=by simpa using h7
  have:=(h.val h7).gb (Fc W m (es++[e2])) (by intro q hq _ e;cases e;exact hq.2.1 h0 rfl);simpa using this
 ·simp only[ht]at h9 ⊢;have h9:Am L 9=true:=by simpa using h9
  obtain⟨c1,c2,c3,c4⟩:=h.new h9;exact⟨c1,by rw[Hb];exact c2,by simpa using c3,by simpa using c4.gb (Fc W m (es++[e2])) (by intro e;cases e;exact c3 h0 rfl)⟩
def LitW.call(h:LitW b R W0 x e1 e2 row L m s v W)(hL:L.size=11)(hb:b<W0.heap.size)(h10:Am L 10=false){W':World}{v':Value}(g:W.grownBy W' (some b))(hR:R true W')(hv:RepL (An W.heap.size) W' v' x):
 LitW b R W0 x e1 e2 row (L.setIfInBounds 7 true) m s v' W':=by
 have ht:=Dw (L:=L) (i:=7) (by omega);have hs:=h.g.size;have hs2:=g.size;refine⟨Z h.g g,by simpa[ht]using hR,λh0=>?_,λ_=>?_,λh9=>?_⟩
 ·simp only[ht]at h0 ⊢;obtain⟨a1,a2,es,a3,a4⟩:=h.map (by simpa using h0);exact⟨a1,by omega,es,CL g a3 (by intro e;cases e;omega),by simpa using a4⟩
 ·refine hv.mono (λq hq _=>?_);have hq:W.heap.size<=q:=hq;refine⟨by omega,λh0=>?_,λh9=>?_⟩
  ·simp only[ht]at h0;have:=(h.map (by simpa using h0)).2.1;omega
  ·simp only[ht]at h9;have:=(h.new (by simpa using h9)).2.1;omega
 ·simp only[ht]at h9 ⊢;obtain⟨c1,c2,c3,c4⟩:=h.new (by simpa using h9);exact⟨c1,by omega,by simpa using c3,by simpa[h10]using c4.gb g (by intro e;cases e;omega)⟩
def LitW.quiet(h:LitW b R W0 x e1 e2 row L m s v W)(hL:L.size=11)(hi:i<11)(h0:i≠0)(h1:i≠1)(h2:i≠2)(h7:i≠7)(h9:i≠9)(h10:i≠10):
 LitW b R W0 x e1 e2 row (L.setIfInBounds i true) m s v W:=by
 have ht:=Dw (L:=L) (i:=i) (by omega);have t0:Am (L.setIfInBounds i true) 0=Am L 0:=by rw[ht,if_neg (Ne.symm h0)]
 have t1:Am (L.setIfInBounds i true) 1=Am L 1:=by rw[ht,if_neg (Ne.symm h1)]
 have t2:Am (L.setIfInBounds i true) 2=Am L 2:=by rw[ht,if_neg (Ne.symm h2)]
 have t7:Am (L.setIfInBounds i true) 7=Am L 7:=by rw[ht,if_neg (Ne.symm h7)]
 have t9:Am (L.setIfInBounds i true) 9=Am L 9:=by rw[ht,if_neg (Ne.symm h9)]
 have t10:Am (L.setIfInBounds i true) 10=Am L 10:=by rw[ht,if_neg (Ne.symm h10)]
 exact⟨h.g,by rw[t7];exact h.r,by rw[t0,t1,t2];exact h.map,by rw[t7,t0,t9];exact h.val,by rw[t9,t0,t10];exact h.new⟩
def Cl(op:Int)(v:Value):List Value:=[.int .i64 op,str [],str [],.slice none 0 0,v,.slice none 0 0,.int .i64 0,.slice none 0 0,.slice none 0 0,.slice none 0 0]
def LitW.store(hS:GK b R)(h:LitW b R W0 x e1 e2 (Cl op) L m s v W)(hL:L.size=11)(hb:b<W0.heap.size)(h0:Am L 0=true)(h9:Am L 9=true)(h10:Am L 10=false):
 LitW b R W0 x e1 e2 (Cl op) (L.setIfInBounds 10 true) m s v (set10 W s (.int .i64 op) (str []) (str []) (.slice none 0 0) v (.slice none 0 0) (.int .i64 0) (.slice none 0 0) (.slice none 0 0) (.slice none 0 0)):=by
 have ht:=Dw (L:=L) (i:=10) (by omega);have hg:=DW W s (.int .i64 op) (str []) (str []) (.slice none 0 0) v (.slice none 0 0) (.int .i64 0) (.slice none 0 0) (.slice none 0 0) (.slice none 0 0);obtain⟨c1,c2,c3,c4⟩:=h.new h9;have hs:=hg.size;refine⟨Aq h.g hg (.inr c1),?_,λ_=>?_,λh7=>?_,λ_=>⟨c1,by omega,λ_=>c3 h0,?_⟩⟩
 ·have:=hS _ _ _ _ h.r hg (by intro q e;cases e;omega);simpa[ht]using this
 ·obtain⟨a1,a2,es,a3,a4⟩:=h.map h0;exact⟨a1,by omega,es,CL hg a3 (by intro e;cases e;exact c3 h0 rfl),by simpa[ht]using a4⟩
 ·simp only[ht]at h7 ⊢;have:=(h.val (by simpa using h7)).gb hg (by intro q hq _ e;cases e;exact hq.2.2 h9 rfl);simpa using this
 ·rw[h10]at c4;have:=Blk.set10 c4 (.int .i64 op) (str []) (str []) (.slice none 0 0) v (.slice none 0 0) (.int .i64 0) (.slice none 0 0) (.slice none 0 0) (.slice none 0 0);simpa[ht,Cl]using this
end
def AllR{α:Type}(P:α->Prop):Res α->Prop
 | .ok a _=>P a
 |_=>True
def AllR.bind{α β:Type}{P:α->Prop}{Q:β->Prop}{r:Res α}{f:α->Nat->Res β}(h:AllR P r)(hf:∀a j,P a->AllR Q (f a j)):AllR Q (r.bind f):=by
 cases r with
 |ok a j=>exact hf a j h
 |bad k=>trivial
 |out=>trivial
def FX(x:Ex):Prop:=x.h.fit/\x.kids.fit
def Dr(h:s.length<=2000000):(hd0 op s).fit:=⟨h,nZ _,nZ _,λs hs=>by cases hs⟩
def YU{g:Fo}(hf:f.fit)(hg:g.fit):(f.app g).fit:=by
 induction f with
 |nil=>exact hg
 |cons h k n _ ih=>exact⟨hf.1,hf.2.1,ih hf.2.2⟩
def GD(h:FX x):(Fo.one x).fit:=⟨h.1,h.2,trivial⟩
def Oz(h:FX x)(k:FX y):(Fo.two x y).fit:=⟨h.1,h.2,k.1,k.2,trivial⟩
def Wh(hf:f.fit)(h:FX x):(f.snoc x).fit:=YU hf ⟨h.1,h.2,trivial⟩
def Lf(hs:s.length<=2000000)(h:FX x)(k:FX y):FX (Bn s x y):=⟨Dr hs,Oz h k⟩
def OP(hs:s.length<=2000000)(h:FX x):FX (unE s x):=⟨Dr hs,GD h⟩
def G4{a b:Int}(hs:s.length<=2000000):FX (A7 a b s):=⟨⟨nZ _,hs,nZ _,λs h=>by cases h⟩,trivial⟩
def Q3:(Gv k s).length<=8:=by
 have h:∀(L:List (Bs×Bs)),(∀p∈L,p.2.length<=8)->((L.lookup s).getD []).length<=8:=by
  intro L;induction L with
  |nil=>intro _;simp
  | cons p L ih=>
    intro hp;obtain⟨a,b⟩:=p;rw[List.lookup_cons];split
    ·exact hp (a,b) (by simp)
    ·exact ih (λq hq=>hp q (by simp[hq]))
 unfold Gv;refine h _ ?_;unfold lvl;split<;>decide
def Kf(k i:Nat):(AN l k i).length<=2000000:=by
 unfold AN;split
 ·exact nT Q3 (by decide)
 ·exact nZ _
def FT(i:Nat):AllR (λs:Bs=>s.length<=10) (AD l i):=by
 unfold AD;split
 ·rename_i h;simp only[Bool.and_eq_true,Ay,decide_eq_true_eq]at h;exact h.2.1.1.2
 ·trivial
def Es(s:Bs)(i:Nat):AllR (λ_:Unit=>True) (AW l s i):=by
 unfold AW;split<;>trivial
def PU(h:∀q,AllR FX (opnd q)):∀n x j,FX x->AllR FX (Dl l k opnd n x j):=by
 intro n;induction n with
 |zero=>intro x j _;trivial
 | succ n ih=>
   intro x j h1;unfold Dl;split
   ·exact h1
   ·exact AllR.bind (h _) λy q hq=>ih _ _ (Lf (Kf _ _) h1 hq)
def IU(h:∀q,AllR FX (opnd q))(q:Nat):AllR FX (Bf l k n opnd q):=AllR.bind (h q) λx j hj=>PU h n x j hj
def WR{un:Nat->Res Ex}(h:∀q,AllR FX (un q)):∀n q,AllR FX (D5 l un n q):=by
 intro n;induction n with
 |zero=>intro q;trivial
 | succ n ih=>
   intro q;unfold D5;refine AllR.bind (h q) λx j hj=>?_;split
   ·exact hj
   ·exact AllR.bind (ih _) λy k hk=>Lf (Kf _ _) hj hk
def XI{sum:Nat->Res Ex}(h:∀q,AllR FX (sum q)):∀n q,AllR FX (Dq l sum n q):=by
 intro n;induction n with
 |zero=>intro q;trivial
 | succ n ih=>
   intro q;unfold Dq;split
   ·exact AllR.bind (ih _) λy k hk=>OP (by decide) hk
   ·refine AllR.bind (h q) λx j hj=>?_;split
    ·exact hj
    ·exact AllR.bind (h _) λy k hk=>Lf (Kf _ _) hj hk
def QT(h:∀q,AllR FX (E q)):∀n x j,FX x->AllR FX (CI l E n x j):=by
 intro n;induction n with
 |zero=>intro x j _;trivial
 | succ n ih=>
   intro x j h1;unfold CI;split
   ·exact AllR.bind (h _) λy q hq=>AllR.bind (Es _ _) λ_ k _=>ih _ _ ⟨Dr (nZ _),Oz h1 hq⟩
   ·exact h1
def TU{prim:Nat->Res Ex}(hE:∀q,AllR FX (E q))(hP:∀q,AllR FX (prim q)):∀n q,AllR FX (CH l E prim n q):=by
 intro n;induction n with
 |zero=>intro q;trivial
 | succ n ih=>
   intro q;unfold CH;split
   ·exact AllR.bind (ih _) λy k hk=>OP (by decide) hk
   ·exact AllR.bind (hP q) λx j hj=>QT hE n x j hj
def Q0(h:∀q,AllR FX (E q)):∀n f j,f.fit->AllR Fo.fit (Di l E n f j):=by
 intro n;induction n with
 |zero=>intro x j _;trivial
 | succ n ih=>
   intro x j h1;unfold Di;split
   ·exact AllR.bind (h _) λy q hq=>ih _ _ (Wh h1 hq)
   ·exact h1
def Ns(h:∀q,AllR FX (E q))(q:Nat):AllR Fo.fit (Dd l E n q):=AllR.bind (h q) λx j hj=>Q0 h n _ j (GD hj)
def NmOk(m:Nat)(p:List Bs):Prop:=p.length<=m/\∀s∈p,s.length<=2000000
def P4:∀n f j,f.length+n<=m->(∀s∈f,s.length<=2000000)->AllR (NmOk m) (Dk l n f j):=by
 intro n;induction n with
 |zero=>intro x j _ _;trivial
 | succ n ih=>
   intro x j h1 h2;unfold Dk;split
   ·refine AllR.bind (FT _) λy q hq=>ih _ _ (by simp;omega) λs hs=>?_;rcases List.mem_append.1 hs with h|h
    ·exact h2 s h
    ·simp at h;subst h;exact nT hq (by decide)
   ·exact⟨by omega,h2⟩
def S8(q:Nat):AllR (NmOk (n+1)) (CG l n q):=
 AllR.bind (FT _) λx j hj=>P4 n _ j (by simp;omega) (λs hs=>by simp at hs;subst hs;exact nT hj (by decide))
def T0(hE:∀q,AllR FX (E q))(q:Nat):AllR FX (DN l E n q):=by
 unfold DN;refine AllR.bind (FT _) λs j hj=>AllR.bind (Es _ _) λ_ k _=>?_;split
 ·exact⟨Dr (nT hj (by decide)),trivial⟩
 ·exact AllR.bind (Ns hE _) λf p hp=>AllR.bind (Es _ _) λ_ r _=>⟨Dr (nT hj (by decide)),hp⟩
def S1(hE:∀q,AllR FX (E q))(q:Nat):AllR FX (DJ l E q):=by
 unfold DJ;refine AllR.bind (Es _ _) λs j _=>?_;split
 ·exact AllR.bind (hE _) λf p hp=>AllR.bind (Es _ _) λ_ k _=>⟨Dr (nZ _),GD hp⟩
 ·exact AllR.bind (FT _) λs p hp=>⟨Dr (nT hp (by decide)),trivial⟩
def Q9(hn:n+1<=2000000)(hE:∀q,AllR FX (E q))(q:Nat):AllR FX (DU l E n q):=by
 unfold DU;split
 ·have h1 : AllR (NmOk (n + 1)) (if Ah (Ab l (q + 1)) [124] then (.ok [] (q + 2) : Res (List Bs)) else (CG l n (q + 1)).bind λp j => (AW l [124] j).bind λ_ j => .ok p j) := by
   split
   ·exact⟨nZ _,λs h=>by cases h⟩
   ·exact AllR.bind (S8 _) λp j hj=>AllR.bind (Es _ _) λ_ k _=>hj
  exact AllR.bind h1 λp j hj=>AllR.bind (hE _) λf p' hp=>AllR.bind (Es _ _) λ_ k _=>⟨⟨nZ _,nZ _,nT hj.1 hn,hj.2⟩,GD hp⟩
 ·exact AllR.bind (Ns hE _) λf p hp=>AllR.bind (Es _ _) λ_ k _=>⟨Dr (nZ _),hp⟩
def Rz(hn:n+1<=2000000)(hE:∀q,AllR FX (E q))(q:Nat):AllR FX (Ev l E n q):=by
 unfold Ev;split
 ·exact S1 hE q
 split
 ·exact G4 (nZ _)
 split
 ·exact G4 (nZ _)
 split
 ·exact G4 (nZ _)
 split
 ·exact AllR.bind (hE _) λf p hp=>AllR.bind (Es _ _) λ_ k _=>hp
 split
 ·exact AllR.bind (FT _) λs p hp=>⟨Dr (nT hp (by decide)),trivial⟩
 split
 ·exact Q9 hn hE _
 ·trivial
def S7(hE:∀q,AllR FX (E q))(q:Nat):AllR FX (E4 l E n q):=by
 unfold E4;split
 ·exact T0 hE q
 refine AllR.bind (FT _) λs j hj=>?_;split
 ·split
  ·exact AllR.bind (hE _) λf p hp=>AllR.bind (Es _ _) λ_ k _=>⟨Dr (nT hj (by decide)),GD hp⟩
  ·exact AllR.bind (FT _) λs p hp=>⟨Dr (nT hj (by decide)),GD ⟨Dr (nT hp (by decide)),trivial⟩⟩
 ·exact⟨Dr (nT hj (by decide)),trivial⟩
def V2(hn:n+1<=2000000)(hE:∀q,AllR FX (E q))(q:Nat):AllR FX (DQ l day E n q):=by
 unfold DQ;split
 ·exact G4 (nZ _)
 split
 ·split
  ·trivial
  ·rename_i h;exact G4 (nT (Nat.le_of_not_lt h) (by decide))
 split
 ·exact G4 (nZ _)
 split
 ·exact S7 hE q
 ·exact Rz hn hE q
def UC(day:Bs->Int):∀n q,n<=1999999->AllR FX (Ak l day n q):=by
 intro n;induction n with
 |zero=>intro q _;trivial
 | succ n ih=>
   intro q hn;have ih:=λq=>ih q (by omega);unfold Ak;exact IU (IU λp=>XI (λp=>IU (IU λp=>WR (λp=>TU ih (λp=>V2 (by omega) ih p) n p) n p) p) n p) q
def Ue(day:Bs->Int)(n:Nat)(hn:n<=1999999){j:Nat}(h:BX l day n= .ok x j):FX x:=by
 have h1:=UC (l:=l) day n 0 hn;unfold BX at h;cases hr:Ak l day n 0 with
 | ok y i=>
   rw[hr,Res.bind_ok]at h;rw[hr]at h1;cases he:B3 l i with
   |ok u k=>rw[he,Res.bind_ok]at h;cases h;exact h1
   |bad k=>rw[he]at h;cases h
   |out=>rw[he]at h;cases h
 |bad k=>rw[hr]at h;cases h
 |out=>rw[hr]at h;cases h
end Go.Proofs.YtbjfaimkiclhgaaGreatDoor
