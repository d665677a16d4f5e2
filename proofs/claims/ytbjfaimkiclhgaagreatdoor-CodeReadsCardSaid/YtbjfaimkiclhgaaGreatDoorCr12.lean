/-
  QgG QgH Inv KgS Plain laws: the text of code is read in one way only. Code: numbers as they are written: Atoi reads what Itoa writes; the program's number. Code: the reference's reader of texts: what 
-/
import Derived.Test.YtbjfaimkiclhgaaGreatDoorCr11
import Derived.Test.YtbjfaimkiclhgaaGreatDoorCr02
import Derived.Test.YtbjfaimkiclhgaaGreatDoorCr10
import Derived.Test.YtbjfaimkiclhgaaGreatDoorCr08
import Derived.Lib.ItoaMem
import Derived.Test.YtbjfaimkiclhgaaGreatDoorCr09
import Derived.Lib.AtoiAll
import Derived.Test.YtbjfaimkiclhgaaGreatDoorCr04
import Derived.Deep.DeepCutAuto
set_option linter.all false
set_option maxRecDepth 100000
set_option maxHeartbeats 8000000
namespace Go.Proofs.YtbjfaimkiclhgaaGreatDoor
open Go.Proofs.Tryz
open Go.RowKit
variable{s wd r r' s':Bs}{w w1:World}{b i n k L B:Nat}{tv wo v:Value}{l:List Tok}{day:Bs->Int}{listed:Array Bool}{a:Bl}{m:Int}{α:Type}{u:Un}{us vs:List Un}
def Tk(h:AZ s≠0):s=DT\/s=BN\/s=DR\/s=Cy:=by
 unfold AZ at h;by_cases h1:s=DT
 ·exact .inl h1
 ·by_cases h2:s=BN
  ·exact .inr (.inl h2)
  ·by_cases h3:s=DR
   ·exact .inr (.inr (.inl h3))
   ·by_cases h4:s=Cy
    ·exact .inr (.inr (.inr h4))
    ·rw[if_neg h1,if_neg h2,if_neg h3,if_neg h4]at h;exact absurd rfl h
def ScQ(hn:Al l)(day:Bs->Int)(n:Nat)(b:Nat)(tv wo:Value)(w:World)(R:Res ScM)(g:Nat)(wr:World):Prop:=
 ∃(c:ScM)(j:Nat),(∃na fa wa nc fc wc,KC b w (w.heap.size+1) (w.heap.size+2) wr c na fa wa nc fc wc)/\Par wr b tv wo l wordsL j/\(By hn wordsL day n g c).f j=R
def Gy(hn:Al l)(hE:CE 208 b tv wo l wordsL (Ak l day n))(hok:∀i,At (Ab l i))(h:Par w b tv wo l wordsL i)(ho:(By hn wordsL day n k Cm).f i ≠ .out):
 Calls Tryz.prog 351 #[.pointer (some ⟨b,0,none⟩)] w (Post b tv wo l wordsL w (VSc w) ((By hn wordsL day n k Cm).f i)):=by
 have hb:=h.lt;have HO:=S ho;generalize hR:(By hn wordsL day n k Cm).f i=R at*;have HQ0:=S hR;have HE:=S hE;have HTk:=S hok;have HH:=S h;have hmm:=Jn;have hup:=KZ;have hfn:=JY;have hfc:=JN;clear hE hok ho h hR;go_enter func351,ntmps351;go_wp2_with fail;clear hmm hup hfn hfc;go_loopg [] k (λg wr=>ScQ hn day n b tv wo w R g wr)
 case atStart=>
  have g1:=gZ w (.cells #[.int .i64 0,.slice none 0 0,.slice none 0 0,.slice none 0 0] 132 (0,0)) none;have g2:=Ac g1 (.cells #[.int .i64 0,.slice none 0 0,.slice none 0 0,.slice none 0 0] 132 (0,0));have g3:=Ac g2 (AM GH);refine⟨Cm,i,⟨none,none,none,0,0,0,?_⟩,HH.1.gbN g3,HQ0.1⟩;exact⟨((Blk.new _ _ _).of_eq (by simp) rfl).alloc _,RepL.nil _ _,RepL.nil _ _,RepL.nil _ _,Ao g3,hb,by omega,by omega,by omega,Ep _ _ _ (by simp),((Blk.new w _ _).alloc _).alloc _⟩
 case round=>
  obtain⟨c,j,⟨na,fa,wa,nc,fc,wc,hK⟩,hp1,hq⟩:=hrel;have HK:=S hK;have hp:=hp1;have HQ:=S hq;clear hK HH hp1 hq HQ0;cases gk with
  |zero=>exact absurd HQ.1.symm HO.1
  |succ k=>
  have e0:=HQ.1;unfold By at e0;rw[Rd.condW_f]at e0;simp only[Bool.false_eq_true,if_false]at e0;rw[Rd.here_f]at e0;replace HQ:=S e0;clear e0;have HI:=S (λh=>CX (l:=l) (W:=wordsL) (i:=j) h);have HA:=S (Bj hp);go_wp2_with fail;refine mR HA.1 λw1 g1=>?_;replace HK:=S (HK.1.gbN g1);replace hp:=hp.gbN g1;clear g1 HA;go_wp2_with fail;refine mR (Fl hp HTk.1 j) λw2 g2=>?_;replace HK:=S (HK.1.gbN g2);replace hp:=hp.gbN g2;clear g2;generalize As l wordsL j=s at*;have hlk:=Q2 HK.1.map s;have hkl:=HK.1.lt;by_cases h1:AZ s≠0/\c.kind=0
  ·have hi:=HI.1 (TZ h1.1);rw[if_pos h1,Rd.skip_f]at HQ;have c0:w2.cell? ⟨w.heap.size+1,0,none⟩=some (.int .i64 0):=by have:=HK.1.blk.cell' 0 rfl;rw[h1.2]at this;exact this
   have f0:=HK.1.blk.frozen 0;have hwL:=HK.1.wL;have c1:=hp.c1;have f1:=hp.f1;have hbl9:=hp.lt;have hfew9:=hp.few;have hgI:=Ai (Aa w2 (some b)) 1 (.int .i64 ((j:Int)+1));have HPI:=S (hp.goI ((j:Int)+1) (j+1) (by omega) (by omega));have HKI:=S (HK.1.gb hgI);clear hgI;rcases Tk h1.1 with rfl|rfl|rfl|rfl
   ·rw[show AZ DT=1 from by decide]at hlk;have hlk:(Instr.lookup 68 (.map (some (w.heap.size+2))) (str DT) true).run Tryz.prog w2= .ok (.tuple #[.int .i64 1,.bool true]) w2:=hlk;have HF:=S (X (HKI.1.putK (AZ DT)) (HPI.1.set (L:=w.heap.size+1) (by omega) 0 (.int .i64 (AZ DT))));rw[if_neg (show ¬(DT=BN\/DT=Cy)by decide)]at HQ;clear HPI HKI;go_wp2;go_roundg k
    case measure=>omega
    case rel=>exact⟨_,_,⟨_,_,_,_,_,_,HF.1.1⟩,HF.1.2,HQ.1⟩
   ·rw[show AZ BN=2 from by decide]at hlk;have hlk:(Instr.lookup 68 (.map (some (w.heap.size+2))) (str BN) true).run Tryz.prog w2= .ok (.tuple #[.int .i64 2,.bool true]) w2:=hlk;have HF:=S (X (HKI.1.putK (AZ BN)) (HPI.1.set (L:=w.heap.size+1) (by omega) 0 (.int .i64 (AZ BN))));rw[if_pos (show BN=BN\/BN=Cy from .inl rfl),Rd.expr_f]at HQ;clear HPI HKI;go_upto_region 10 with fail;refine Az (λW=>KC b w (w.heap.size+1) (w.heap.size+2) W {c with kind:=AZ BN} na fa wa nc fc wc/\Par W b tv wo l wordsL (j+1)) ⟨HF.1.1,HF.1.2⟩ ?_;rintro W3 ⟨hK,hp3⟩;replace HK:=S hK;replace hp:=hp3;clear hK hp3 HF c0 f0 c1 f1 hlk;have hkl:=HK.1.lt;have hwL:=HK.1.wL;go_wp2_with fail;refine(HE.1 _ _ hp (λe=>HO.1 (by rw[<-HQ.1,e];rfl))).mono ?_;intro e w4 hq;obtain⟨g4,⟨q,hr,rfl⟩| ⟨x,j4,v,hr,rfl,⟨pa,pc,la,lc,rfl,rp,rl⟩,h4⟩⟩:=hq.split
    ·exact PBd HK.1.gr g4 HQ hr
    replace HQ:=HQo HQ hr;clear hr;have hs4:=g4.size;have hK4:=HK.1.gb g4;have hkl4:=hK4.lt;have d4:=hK4.blk.cell' 1 rfl;have f4:=hK4.blk.frozen 1;have hfr:∀q,An (W3).heap.size q->q<w4.heap.size->but w (w.heap.size+1) q:=λq hq _=>by have h1:(W3).heap.size<=q:=hq;exact⟨by omega,by omega⟩
    have hK5:=hK4.layN (rp.mono hfr) (rl.mono hfr);have hp5:=(h4.set (L:=w.heap.size+1) (by omega) 1 (.slice (some ⟨w4.heap.size,0,none⟩) 1 1)).alloc (.cells (hdC x.h (.slice pa x.h.p.length pc) (.slice la x.kids.len lc)).toArray 163 (0,0));have HK5:=S (X hK5 hp5);clear hK5 hp5 hfr rp rl g4 h4 hK4;go_wp2;go_roundg k
    case measure=>omega
    case rel=>exact⟨_,_,⟨_,_,_,_,_,_,HK5.1.1⟩,HK5.1.2,HQ.1⟩
   ·rw[show AZ DR=3 from by decide]at hlk;have hlk:(Instr.lookup 68 (.map (some (w.heap.size+2))) (str DR) true).run Tryz.prog w2= .ok (.tuple #[.int .i64 3,.bool true]) w2:=hlk;have HF:=S (X (HKI.1.putK (AZ DR)) (HPI.1.set (L:=w.heap.size+1) (by omega) 0 (.int .i64 (AZ DR))));rw[if_neg (show ¬(DR=BN\/DR=Cy)by decide)]at HQ;clear HPI HKI;go_wp2;go_roundg k
    case measure=>omega
    case rel=>exact⟨_,_,⟨_,_,_,_,_,_,HF.1.1⟩,HF.1.2,HQ.1⟩
   ·rw[show AZ Cy=4 from by decide]at hlk;have hlk:(Instr.lookup 68 (.map (some (w.heap.size+2))) (str Cy) true).run Tryz.prog w2= .ok (.tuple #[.int .i64 4,.bool true]) w2:=hlk;have HF:=S (X (HKI.1.putK (AZ Cy)) (HPI.1.set (L:=w.heap.size+1) (by omega) 0 (.int .i64 (AZ Cy))));rw[if_pos (show Cy=BN\/Cy=Cy from .inr rfl),Rd.expr_f]at HQ;clear HPI HKI;go_upto_region 10 with fail;refine Az (λW=>KC b w (w.heap.size+1) (w.heap.size+2) W {c with kind:=AZ Cy} na fa wa nc fc wc/\Par W b tv wo l wordsL (j+1)) ⟨HF.1.1,HF.1.2⟩ ?_;rintro W3 ⟨hK,hp3⟩;replace HK:=S hK;replace hp:=hp3;clear hK hp3 HF c0 f0 c1 f1 hlk;have hkl:=HK.1.lt;have hwL:=HK.1.wL;go_wp2_with fail;refine(HE.1 _ _ hp (λe=>HO.1 (by rw[<-HQ.1,e];rfl))).mono ?_;intro e w4 hq;obtain⟨g4,⟨q,hr,rfl⟩| ⟨x,j4,v,hr,rfl,⟨pa,pc,la,lc,rfl,rp,rl⟩,h4⟩⟩:=hq.split
    ·exact PBd HK.1.gr g4 HQ hr
    replace HQ:=HQo HQ hr;clear hr;have hs4:=g4.size;have hK4:=HK.1.gb g4;have hkl4:=hK4.lt;have d4:=hK4.blk.cell' 1 rfl;have f4:=hK4.blk.frozen 1;have hfr:∀q,An (W3).heap.size q->q<w4.heap.size->but w (w.heap.size+1) q:=λq hq _=>by have h1:(W3).heap.size<=q:=hq;exact⟨by omega,by omega⟩
    have hK5:=hK4.layN (rp.mono hfr) (rl.mono hfr);have hp5:=(h4.set (L:=w.heap.size+1) (by omega) 1 (.slice (some ⟨w4.heap.size,0,none⟩) 1 1)).alloc (.cells (hdC x.h (.slice pa x.h.p.length pc) (.slice la x.kids.len lc)).toArray 163 (0,0));have HK5:=S (X hK5 hp5);clear hK5 hp5 hfr rp rl g4 h4 hK4;go_wp2;go_roundg k
    case measure=>omega
    case rel=>exact⟨_,_,⟨_,_,_,_,_,_,HK5.1.1⟩,HK5.1.2,HQ.1⟩
  ·rw[if_neg h1]at HQ;by_cases h2:s=CS/\c.f.len=0
   ·obtain⟨rfl,hf0⟩:=h2;have hi:=HI.1 (by decide);rw[if_pos (show CS=CS/\c.f.len=0 from⟨rfl,hf0⟩),Rd.skip_f,Rd.expr_f]at HQ;have hlk:(Instr.lookup 68 (.map (some (w.heap.size+2))) (str CS) true).run Tryz.prog w2= .ok (.tuple #[.int .i64 0,.bool false]) w2:=hlk;have c2:w2.cell? ⟨w.heap.size+1,2,none⟩=some (.slice fa 0 fc):=by have:=HK.1.blk.cell' 2 rfl;rw[hf0]at this;exact this
    have c1:=hp.c1;have f1:=hp.f1;have hbl9:=hp.lt;have hfew9:=hp.few;have hgI:=Ai (Aa w2 (some b)) 1 (.int .i64 ((j:Int)+1));have HPI:=S (hp.goI ((j:Int)+1) (j+1) (by omega) (by omega));have HKI:=S (HK.1.gb hgI);clear hgI;go_upto_region 13 with fail;refine Az (λW=>KC b w (w.heap.size+1) (w.heap.size+2) W c na fa wa nc fc wc/\Par W b tv wo l wordsL (j+1)) ⟨HKI.1,HPI.1⟩ ?_;rintro W3 ⟨hK,hp3⟩;replace HK:=S hK;replace hp:=hp3;clear hK hp3 HKI HPI c1 f1 c2 hlk;have hkl:=HK.1.lt;have hwL:=HK.1.wL;go_wp2_with fail;refine(HE.1 _ _ hp (λe=>HO.1 (by rw[<-HQ.1,e];rfl))).mono ?_;intro e w4 hq;obtain⟨g4,⟨q,hr,rfl⟩| ⟨x,j4,v,hr,rfl,⟨pa,pc,la,lc,rfl,rp,rl⟩,h4⟩⟩:=hq.split
    ·exact PBd HK.1.gr g4 HQ hr
    replace HQ:=HQo HQ hr;clear hr;have hs4:=g4.size;have hK4:=HK.1.gb g4;have hkl4:=hK4.lt;have d4:=hK4.blk.cell' 2 rfl;have f4:=hK4.blk.frozen 2;have hfr:∀q,An (W3).heap.size q->q<w4.heap.size->but w (w.heap.size+1) q:=λq hq _=>by have h1:(W3).heap.size<=q:=hq;exact⟨by omega,by omega⟩
    have hK5:=hK4.layF (rp.mono hfr) (rl.mono hfr);have hp5:=(h4.set (L:=w.heap.size+1) (by omega) 2 (.slice (some ⟨w4.heap.size,0,none⟩) 1 1)).alloc (.cells (hdC x.h (.slice pa x.h.p.length pc) (.slice la x.kids.len lc)).toArray 163 (0,0));have HK5:=S (X hK5 hp5);clear hK5 hp5 hfr rp rl g4 h4 hK4;go_wp2;go_roundg k
    case measure=>omega
    case rel=>exact⟨_,_,⟨_,_,_,_,_,_,HK5.1.1⟩,HK5.1.2,HQ.1⟩
   ·rw[if_neg h2]at HQ;by_cases h3:s=Eh/\c.w.len=0
    ·obtain⟨rfl,hf0⟩:=h3;have hi:=HI.1 (by decide);rw[if_pos (show Eh=Eh/\c.w.len=0 from⟨rfl,hf0⟩),Rd.skip_f,Rd.expr_f]at HQ;have hlk:(Instr.lookup 68 (.map (some (w.heap.size+2))) (str Eh) true).run Tryz.prog w2= .ok (.tuple #[.int .i64 0,.bool false]) w2:=hlk;have c3:w2.cell? ⟨w.heap.size+1,3,none⟩=some (.slice wa 0 wc):=by have:=HK.1.blk.cell' 3 rfl;rw[hf0]at this;exact this
     have c1:=hp.c1;have f1:=hp.f1;have hbl9:=hp.lt;have hfew9:=hp.few;have hgI:=Ai (Aa w2 (some b)) 1 (.int .i64 ((j:Int)+1));have HPI:=S (hp.goI ((j:Int)+1) (j+1) (by omega) (by omega));have HKI:=S (HK.1.gb hgI);clear hgI;go_upto_region 16 with fail;refine Az (λW=>KC b w (w.heap.size+1) (w.heap.size+2) W c na fa wa nc fc wc/\Par W b tv wo l wordsL (j+1)) ⟨HKI.1,HPI.1⟩ ?_;rintro W3 ⟨hK,hp3⟩;replace HK:=S hK;replace hp:=hp3;clear hK hp3 HKI HPI c1 f1 c3 hlk;have hkl:=HK.1.lt;have hwL:=HK.1.wL;go_wp2_with fail;refine(HE.1 _ _ hp (λe=>HO.1 (by rw[<-HQ.1,e];rfl))).mono ?_;intro e w4 hq;obtain⟨g4,⟨q,hr,rfl⟩| ⟨x,j4,v,hr,rfl,⟨pa,pc,la,lc,rfl,rp,rl⟩,h4⟩⟩:=hq.split
     ·exact PBd HK.1.gr g4 HQ hr
     replace HQ:=HQo HQ hr;clear hr;have hs4:=g4.size;have hK4:=HK.1.gb g4;have hkl4:=hK4.lt;have d4:=hK4.blk.cell' 3 rfl;have f4:=hK4.blk.frozen 3;have hfr:∀q,An (W3).heap.size q->q<w4.heap.size->but w (w.heap.size+1) q:=λq hq _=>by have h1:(W3).heap.size<=q:=hq;exact⟨by omega,by omega⟩
     have hK5:=hK4.layW (rp.mono hfr) (rl.mono hfr);have hp5:=(h4.set (L:=w.heap.size+1) (by omega) 3 (.slice (some ⟨w4.heap.size,0,none⟩) 1 1)).alloc (.cells (hdC x.h (.slice pa x.h.p.length pc) (.slice la x.kids.len lc)).toArray 163 (0,0));have HK5:=S (X hK5 hp5);clear hK5 hp5 hfr rp rl g4 h4 hK4;go_wp2;go_roundg k
     case measure=>omega
     case rel=>exact⟨_,_,⟨_,_,_,_,_,_,HK5.1.1⟩,HK5.1.2,HQ.1⟩
    ·rw[if_neg h3,Rd.pure_f]at HQ;by_cases h0:AZ s=0
     ·have hb1:(!(AZ s==0))=false:=by simpa using h0
      rw[hb1]at hlk;clear hb1;by_cases hs1:s=CS
      ·subst hs1;have hfl:((c.f.len:Int)==0)=false:=by have:c.f.len≠0:=λe=>h2 ⟨rfl,e⟩;simp;omega
       have hkb:=HK.1.blk;have hkz:=HK.1.zero;have hkl:=hkb.lt;have hkl2:=hkz.lt;have ck_0:=(hkb).cell' 0 rfl;have ck_1:=(hkb).cell' 1 rfl;have ck_2:=(hkb).cell' 2 rfl;have ck_3:=(hkb).cell' 3 rfl;have ck_f:=λi=>(hkb).frozen i;have cz_0:=(hkz).cell' 0 rfl;have cz_1:=(hkz).cell' 1 rfl;have cz_2:=(hkz).cell' 2 rfl;have cz_3:=(hkz).cell' 3 rfl;have cz_f:=λi=>(hkz).frozen i;clear hkb hkz;go_wp2;have hres9:=Post.ok (V:=VSc w) HK.1.out.1 HQ.1.symm HK.1.out.2.2.2 (hp.gb HK.1.out.2.1 (by intro q e;cases e;omega));have hblk9:=HK.1.out.2.2.1;refine bZ ?hr9 rfl hres9
       case hr9=>exact IE rfl _ hblk9 rfl rfl
      ·have hs1:(s==[70,79,82])=false:=by simpa using hs1
       by_cases hs2:s=Eh
       ·subst hs2;have hfl:((c.w.len:Int)==0)=false:=by have:c.w.len≠0:=λe=>h3 ⟨rfl,e⟩;simp;omega
        have hkb:=HK.1.blk;have hkz:=HK.1.zero;have hkl:=hkb.lt;have hkl2:=hkz.lt;have ck_0:=(hkb).cell' 0 rfl;have ck_1:=(hkb).cell' 1 rfl;have ck_2:=(hkb).cell' 2 rfl;have ck_3:=(hkb).cell' 3 rfl;have ck_f:=λi=>(hkb).frozen i;have cz_0:=(hkz).cell' 0 rfl;have cz_1:=(hkz).cell' 1 rfl;have cz_2:=(hkz).cell' 2 rfl;have cz_3:=(hkz).cell' 3 rfl;have cz_f:=λi=>(hkz).frozen i;clear hkb hkz;go_wp2;have hres9:=Post.ok (V:=VSc w) HK.1.out.1 HQ.1.symm HK.1.out.2.2.2 (hp.gb HK.1.out.2.1 (by intro q e;cases e;omega));have hblk9:=HK.1.out.2.2.1;refine bZ ?hr9 rfl hres9
        case hr9=>exact IE rfl _ hblk9 rfl rfl
       ·have hs2:(s==[87,72,73,76,69])=false:=by simpa using hs2
        have hkb:=HK.1.blk;have hkz:=HK.1.zero;have hkl:=hkb.lt;have hkl2:=hkz.lt;have ck_0:=(hkb).cell' 0 rfl;have ck_1:=(hkb).cell' 1 rfl;have ck_2:=(hkb).cell' 2 rfl;have ck_3:=(hkb).cell' 3 rfl;have ck_f:=λi=>(hkb).frozen i;have cz_0:=(hkz).cell' 0 rfl;have cz_1:=(hkz).cell' 1 rfl;have cz_2:=(hkz).cell' 2 rfl;have cz_3:=(hkz).cell' 3 rfl;have cz_f:=λi=>(hkz).frozen i;clear hkb hkz;go_wp2;have hres9:=Post.ok (V:=VSc w) HK.1.out.1 HQ.1.symm HK.1.out.2.2.2 (hp.gb HK.1.out.2.1 (by intro q e;cases e;omega));have hblk9:=HK.1.out.2.2.1;refine bZ ?hr9 rfl hres9
        case hr9=>exact IE rfl _ hblk9 rfl rfl
     ·have hb1:(!(AZ s==0))=true:=by simpa using h0
      rw[hb1]at hlk;have hc0:(c.kind==0)=false:=by have:c.kind≠0:=λe=>h1 ⟨h0,e⟩;simpa using this
      have hs1:(s==[70,79,82])=false:=by have:s≠CS:=λe=>h0 (by rw[e];decide);simpa using this
      have hs2:(s==[87,72,73,76,69])=false:=by have:s≠Eh:=λe=>h0 (by rw[e];decide);simpa using this
      clear hb1;have hkb:=HK.1.blk;have hkz:=HK.1.zero;have hkl:=hkb.lt;have hkl2:=hkz.lt;have ck_0:=(hkb).cell' 0 rfl;have ck_1:=(hkb).cell' 1 rfl;have ck_2:=(hkb).cell' 2 rfl;have ck_3:=(hkb).cell' 3 rfl;have ck_f:=λi=>(hkb).frozen i;have cz_0:=(hkz).cell' 0 rfl;have cz_1:=(hkz).cell' 1 rfl;have cz_2:=(hkz).cell' 2 rfl;have cz_3:=(hkz).cell' 3 rfl;have cz_f:=λi=>(hkz).frozen i;clear hkb hkz;go_wp2;have hres9:=Post.ok (V:=VSc w) HK.1.out.1 HQ.1.symm HK.1.out.2.2.2 (hp.gb HK.1.out.2.1 (by intro q e;cases e;omega));have hblk9:=HK.1.out.2.2.1;refine bZ ?hr9 rfl hres9
      case hr9=>exact IE rfl _ hblk9 rfl rfl
def D1(h:Par w b tv wo l wordsL i)(hi:i<l.length):
 b<w.heap.size/\l.length<=4001/\w.cell? ⟨b,1,none⟩=some (.int .i64 i)/\w.frozen? ⟨b,1,none⟩=false/\
 Hid (Blk ((w.setCell ⟨b,1,none⟩ (.int .i64 ((i:Int)+1))).alloc (.cells (stC 0 (.slice none 0 0)).toArray 134 (0,0))) w.heap.size (stC 0 (.slice none 0 0)) 134/\w.grownBy ((w.setCell ⟨b,1,none⟩ (.int .i64 ((i:Int)+1))).alloc (.cells (stC 0 (.slice none 0 0)).toArray 134 (0,0))) (some b)/\Par ((w.setCell ⟨b,1,none⟩ (.int .i64 ((i:Int)+1))).alloc (.cells (stC 0 (.slice none 0 0)).toArray 134 (0,0))) b tv wo l wordsL (i+1)):=
 ⟨h.lt,h.few,h.c1,h.f1,S ⟨(Blk.new (w.setCell ⟨b,1,none⟩ (.int .i64 ((i:Int)+1))) (stC 0 (.slice none 0 0)) 134).of_eq (by simp) rfl,Ac (Ai (Aa w (some b)) 1 (.int .i64 ((i:Int)+1))) _,(h.goI ((i:Int)+1) (i+1) (by omega) (by omega)).alloc _⟩⟩
def CC(wd:Bs)(h:Par w b tv wo l wordsL i)(hi:i<l.length):
 b<w.heap.size/\l.length<=4001/\w.cell? ⟨b,1,none⟩=some (.int .i64 i)/\w.frozen? ⟨b,1,none⟩=false/\
 Hid (KA b w (w.heap.size+1) (((w.setCell ⟨b,1,none⟩ (.int .i64 ((i:Int)+1))).alloc (.cells (stC 0 (.slice none 0 0)).toArray 134 (0,0))).alloc (.cells #[.int .i64 13,str wd,str [],.slice none 0 0,.slice none 0 0,.slice none 0 0,.int .i64 0,.slice none 0 0,.slice none 0 0,.slice none 0 0] 134 (0,0))) 13 wd [] [] .nil .nil (.slice none 0 0) (.slice none 0 0) (.slice none 0 0)/\Par (((w.setCell ⟨b,1,none⟩ (.int .i64 ((i:Int)+1))).alloc (.cells (stC 0 (.slice none 0 0)).toArray 134 (0,0))).alloc (.cells #[.int .i64 13,str wd,str [],.slice none 0 0,.slice none 0 0,.slice none 0 0,.int .i64 0,.slice none 0 0,.slice none 0 0,.slice none 0 0] 134 (0,0))) b tv wo l wordsL (i+1)):=by
 obtain⟨h1,h2,h3,h4,h5⟩:=D1 h hi;have hk:=KA.start h5.out.1 h5.out.2.1 h1 (by simp) 13 wd;rw[show((w.setCell ⟨b,1,none⟩ (.int .i64 ((i:Int)+1))).alloc (.cells (stC 0 (.slice none 0 0)).toArray 134 (0,0))).heap.size=w.heap.size+1 by simp]at hk;exact⟨h1,h2,h3,h4,S ⟨hk,h5.out.2.2.alloc _⟩⟩
abbrev VIn(b:Nat)(w:World)(L:Nat):World->Value->Sd->Prop:=λw' v x=>v= .tuple #[]/\∃pv xv nv fv wv,KS b w L w' x .nil pv xv (.slice none 0 0) nv fv wv
def Par.putC(h:Par w b tv wo l wordsL i)(hL:b<L)(v0 v1 v2 v3:Value):Par ((((w.setCell ⟨L,6,none⟩ v0).setCell ⟨L,7,none⟩ v1).setCell ⟨L,8,none⟩ v2).setCell ⟨L,9,none⟩ v3) b tv wo l wordsL i:=
 h.gb (Ai (Ai (Ai (Ai (Aa w (some L)) 6 v0) 7 v1) 8 v2) 9 v3) (by intro q e;cases e;exact hL)
def It{l:List Tok}(hn:Al l)(wd:Bs):Rd l Sd:=Rd.cond (Rd.atEnd l) (Rd.pure (sd0 13 wd)) ((Rd.name hn).bind λp=>(Rd.ifw wordsL Il ((Rd.name hn).bind λq=>Rd.pure [p,q]) (Rd.pure [p])).bind λps=>Rd.pure {sd0 13 wd with p:=ps})
def Io{l:List Tok}(hn:Al l)(day:Bs->Int)(n:Nat)(wd:Bs):Rd l Sd:=
 (EG hn wordsL day n ([],.nil)).bind λa=>(Rd.moreS [44] (EG hn wordsL day n) n a).bind λa=>(By hn wordsL day n n Cm).bind λc=>Rd.pure (Db {sd0 13 wd with p:=a.1,x:=a.2} c)
section
variable {wr:World}
def Xh(hn:Al l)(hok:∀i,At (Ab l i))(hl:A0 l)(k:KA b w L wr 13 wd [] [] .nil .nil (.slice none 0 0) (.slice none 0 0) (.slice none 0 0))(h:Par wr b tv wo l wordsL i)(ho:(It hn wd).f i ≠ .out):
 Calls Tryz.prog 349 #[.pointer (some ⟨b,0,none⟩),.pointer (some ⟨L,0,none⟩)] wr (Post b tv wo l wordsL w (VIn b w L) ((It hn wd).f i)):=by
 have hb:=h.lt;have HO:=S ho;generalize hR:(It hn wd).f i=R at*;unfold It at hR;rw[Rd.cond_f]at hR;have HQ:=S hR;have HTk:=S hok;have HSh:=S hl;have HK:=S k;have hp:=h;have HA:=S (Bj h);clear hok hl h ho hR k;cases hk:(Ab l i).kind==5 with
 | true=>
   have hk5:(Ab l i).kind=5:=by simpa using hk
   rw[if_pos (show Rd.atEnd l i=true from hk)]at HQ;clear hk;go_enter func349,ntmps349;go_wp2_with fail;refine mR HA.1 λw6 g6=>?_;rw[AR,hk5];replace HK:=S (HK.1.gbN g6).toKS;replace hp:=hp.gbN g6;clear g6 HA;go_wp2;go_end0;exact Post.ok HK.1.gr HQ.1.symm ⟨rfl,_,_,_,_,_,HK.1⟩ hp
 | false=>
   rw[if_neg (nF (show Rd.atEnd l i=false from hk)),Rd.name_f]at HQ;go_enter func349,ntmps349;go_wp2_with fail;refine mR HA.1 λw6 g6=>?_;rw[AR];replace HK:=S (HK.1.gbN g6);replace hp:=hp.gbN g6;clear g6 HA;have hkl:=HK.1.lt;have hwL:=HK.1.wL;go_wp2_with fail;refine(B7 hp HSh.1).mono ?_;intro e w7 hq;obtain⟨g,⟨q,hr,rfl⟩| ⟨p,j7,v,hr,rfl,rfl,hp9⟩⟩:=hq.split
   ·exact⟨rfl,Post.bad (Z HK.1.gr g) (by rw[<-HQ.1,hr];rfl)⟩
   replace HK:=S (HK.1.gb g);replace hp:=hp9;clear hp9;rw[hr,Res.bind_ok]at HQ;clear hr g;have hkl3:=HK.1.lt;have d3:=HK.1.blk.cell' 3 rfl;have f3:=HK.1.blk.frozen 3;have hbL:b<L:=by have:=HK.1.bw;omega
   have hp3:=(hp.set (L:=L) hbL 3 (.slice (some ⟨(w7).heap.size,0,none⟩) 1 1)).alloc (.cells #[str p] 9 (0,0));replace HK:=S (HK.1.layP p);replace hp:=hp3;clear hp3;rw[Rd.bind_f,Rd.ifw_f]at HQ;cases hw:As l wordsL j7==Il with
   | false=>
     go_wp2_with fail;refine mR (Dh hp HTk.1 Il hw) λw8 g=>?_;replace HK:=S (HK.1.gbN g);replace hp:=hp.gbN g;clear g;rw[if_neg (nF hw)]at HQ;clear hw d3 f3;rw[Rd.pure_f,Res.bind_ok,Rd.pure_f]at HQ;replace HK:=S HK.1.toKS;go_wp2;go_end0;exact Post.ok HK.1.gr HQ.1.symm ⟨rfl,_,_,_,_,_,HK.1⟩ hp
   | true=>
     go_wp2_with fail;refine(Dj hp HTk.1 Il (by decide) hw).mono ?_;rintro e w8 ⟨rfl,hp9,g⟩;replace HK:=S (HK.1.gb g);replace hp:=hp9;clear g hp9;rw[if_pos hw]at HQ;clear hw d3 f3;rw[Rd.name_f]at HQ;have hkl:=HK.1.lt;have hx3:=HK.1.blk.cell' 3 rfl;cases hr6:AD l (j7+1)with
     |out=>exact absurd (by rw[<-HQ.1,hr6];rfl) HO.1
     | bad q6=>
       go_wp2_with fail;go_region_with(go_at_call 247;refine(B7 (hp.gbN (Ad (Aa _ none))) HSh.1).mono ?_;rintro e w6 hq6;rw[hr6]at hq6;obtain⟨g6,rfl⟩:=hq6;refine Bt (P:=Tryz.prog) ⟨rfl,Post.bad (Z (Ad HK.1.gr) g6) (by rw[<-HQ.1,hr6];rfl)⟩ ⟨#[],[]⟩ w6 ?_);all_goals trivial
     |ok q j9=>
     rw[hr6,Res.bind_ok,Rd.pure_f,Res.bind_ok,Rd.pure_f]at HQ;go_wp2_with fail;obtain⟨i0,HI⟩:=iPz Fp;have hroom:=(show([p]:List Bs).length<=5 by simp);have hbL:=HK.1.bL;have hwL:=HK.1.wL;go_region_law(first
      | (refine step_append_lies _ (by rfl) _ _ 37 (by rfl) (w.heap.size+1) 9 i0 _ 1 16 underlying37 HI.1.1 HI.1.2.1 HI.1.2.2.1 HI.1.2.2.2 rfl (by decide) _ _ _ (by rfl) HB.1.1.p ⟨w6.heap.size,0,none⟩ 1 1 [str q] (by rfl) rfl (EV _ _ _) (by simp[Value.oneCell']) (by decide) (by unfold maxLen;omega) (by omega) (by simp<;>omega) _ rfl ?_;intro j cap w7 hown hgrow hat hlt;(have HK8:=S (X (HB.1.1.addP' hown hgrow hat) (Par.app HB.1.2 hgrow (λq hq=>(HB.1.1.belowP q hq).1) hbL 3 (.slice (some ⟨j,0,none⟩) (([p]:List Bs).length+1) cap))));(have hb7:=HB.1.1.blk.gb hgrow HB.1.1.neP);(have f7:=hb7.frozen 3);(have d7:=hb7.cell' 3 rfl);(have l7:=hb7.lt);clear hown hgrow hat hb7 HB)
      | (go_simp;go_at_call 247;refine(B7 (hp.drewN 1) HSh.1).mono ?_;rintro e w6 hq6;rw[hr6]at hq6;obtain⟨g6,v,rfl,rfl,h6⟩:=hq6;(have k6:=HK.1.gb (Z (Ad (Aa _ _)) g6));(have l6:=k6.lt);(have d6:=k6.blk.cell' 3 rfl);(have s6:=g6.size);(have HB:=S (X (k6.alloc (.cells #[str q] 9 (0,0))) (h6.alloc (.cells #[str q] 9 (0,0)))));clear k6 h6 g6))
     all_goals
      go_wp2_with fail;generalize hWW:World.setCell _ _ _=W10 at*;have HK:=S HK8.1.1;have hp:=HK8.1.2;clear HK8 hx3 d6 d7 f7 l6 l7 s6;replace HK:=S HK.1.toKS;go_end0;exact Post.ok HK.1.gr HQ.1.symm ⟨rfl,_,_,_,_,_,HK.1⟩ hp
def V9(hn:Al l)(hE:CE 208 b tv wo l wordsL (Ak l day n))(hok:∀i,At (Ab l i))(k:KS b w L wr (sd0 13 wd) .nil (.slice none 0 0) (.slice none 0 0) (.slice none 0 0) (.slice none 0 0) (.slice none 0 0) (.slice none 0 0))(h:Par wr b tv wo l wordsL i)(ho:(goP hn wordsL day n (sd0 13 wd)).f i ≠ .out):
 Calls Tryz.prog 350 #[.pointer (some ⟨b,0,none⟩),.pointer (some ⟨L,0,none⟩)] wr (Post b tv wo l wordsL w (VIn b w L) ((goP hn wordsL day n (sd0 13 wd)).f i)):=by
 have hb:=h.lt;have HO:=S ho;generalize hR:(goP hn wordsL day n (sd0 13 wd)).f i=R at*;unfold goP at hR;rw[Rd.here_f,Rd.cond_f]at hR;have HQ:=S hR;have HE:=S hE;have HTk:=S hok;have HK:=S k;have hp:=h;have HA:=S (Bj h);have HI:=S (λh=>CX (l:=l) (W:=wordsL) (i:=i) h);clear hE hok h ho hR k;go_enter func350,ntmps350;go_wp2_with fail;refine mR HA.1 λw1 g1=>?_;replace HK:=S (HK.1.gbN g1);replace hp:=hp.gbN g1;clear g1 HA;go_wp2_with fail;refine mR (Fl hp HTk.1 i) λw2 g2=>?_;replace HK:=S (HK.1.gbN g2);replace hp:=hp.gbN g2;clear g2;generalize As l wordsL i=s at*;have HA:=S (Ig hp);by_cases hs:s=FL\/s=Fy
 ·have hi:=HI.1 (by rcases hs with rfl|rfl<;>decide);cases hk:(Ab l (i+1)).kind==5 with
  | true=>
    have hk5:(Ab l (i+1)).kind=5:=by simpa using hk
    have hc:((s==FL||s==Fy)&&Rd.atEnd l (i+1))=true:=by
     rw[show Rd.atEnd l (i+1)=true from hk];rcases hs with rfl|rfl<;>decide
    rw[if_pos hc]at HQ;clear hk hc;rw[Rd.skip_f,Rd.pure_f]at HQ;rcases hs with rfl|rfl
    all_goals
     go_wp2_with fail;refine mR HA.1 λw3 g3=>?_;rw[AR,hk5];replace HK:=S (HK.1.gbN g3);replace hp:=hp.gbN g3;have hkl:=HK.1.lt;have hwL:=HK.1.wL;have hbw:=HK.1.bw;clear g3 HA;have c1:=hp.c1;have f1:=hp.f1;have hbl9:=hp.lt;have hfew9:=hp.few;have hgI:=Ai (Aa w3 (some b)) 1 (.int .i64 ((i:Int)+1));have HPI:=S (hp.goI ((i:Int)+1) (i+1) (by omega) (by omega));have HKI:=S (HK.1.gb hgI);clear hgI;have d2:=HK.1.blk.cell' 2 rfl;have f2:=HK.1.blk.frozen 2;have HF:=S (λs2=>X (HKI.1.putT s2) (HPI.1.set (L:=L) (by omega) 2 (str s2)));clear HKI HPI;go_wp2;go_end0;exact Post.ok (HF.1 _).1.gr HQ.1.symm ⟨rfl,_,_,_,_,_,(HF.1 _).1⟩ (HF.1 _).2
  | false=>
    have hc:((s==FL||s==Fy)&&Rd.atEnd l (i+1))=false:=by
     rw[show Rd.atEnd l (i+1)=false from hk,Bool.and_false]
    rw[if_neg (nF hc)]at HQ;clear hc;rw[Rd.expr_f]at HQ;rcases hs with rfl|rfl
    all_goals
     go_wp2_with fail;refine mR HA.1 λw3 g3=>?_;rw[AR];replace HK:=S (HK.1.gbN g3);replace hp:=hp.gbN g3;clear g3 HA;have hkl:=HK.1.lt;have hwL:=HK.1.wL;go_wp2_with fail;refine(HE.1 _ _ hp (λe=>HO.1 (by rw[<-HQ.1,e];rfl))).mono ?_;intro e w7 hq;obtain⟨g,⟨q,hr,rfl⟩| ⟨x,j7,v,hr,rfl,⟨pa,pc,la,lc,rfl,rp,rl⟩,hp9⟩⟩:=hq.split
     ·exact PBd HK.1.gr g HQ hr
     replace HK:=S (HK.1.gb g);replace hp:=hp9;clear hp9;replace HQ:=HQo HQ hr;clear hr;have hs3:=g.size;have hkl3:=HK.1.lt;have d3:=HK.1.blk.cell' 4 rfl;have f3:=HK.1.blk.frozen 4;have hbL:b<L:=by have:=HK.1.bw;omega
     have hfr:∀q,An (w3).heap.size q->q<(w7).heap.size->but w L q:=λq hq _=>by have h1:(w3).heap.size<=q:=hq;(try simp at h1);exact⟨by omega,by omega⟩
     have hK4:=HK.1.layX (f:= .one x) (m:=1) (by simp[Fo.one,Ex.fo,Fo.len]) (by decide) (VE.rep (rp.mono hfr) (rl.mono hfr));have hp3:=(hp.set (L:=L) hbL 4 (.slice (some ⟨(w7).heap.size,0,none⟩) 1 1)).alloc (.cells (hdC (x).h (.slice pa (x).h.p.length pc) (.slice la (x).kids.len lc)).toArray 163 (0,0));replace HK:=S hK4;replace hp:=hp3;clear g rp rl hK4 hp3 hfr;rw[Rd.pure_f]at HQ;go_wp2;go_end0;exact Post.ok HK.1.gr HQ.1.symm ⟨rfl,_,_,_,_,_,HK.1⟩ hp
 ·have hs1:(s==[84,79,80])=false:=by have:s≠FL:=λe=>hs (.inl e);simpa using this
  have hs2:(s==[66,79,84,84,79,77])=false:=by have:s≠Fy:=λe=>hs (.inr e);simpa using this
  have hc:((s==FL||s==Fy)&&Rd.atEnd l (i+1))=false:=by
   rw[show(s==FL)=false from hs1,show(s==Fy)=false from hs2];rfl
  rw[if_neg (nF hc)]at HQ;clear hc HA;rw[Rd.expr_f]at HQ;have hkl:=HK.1.lt;have hwL:=HK.1.wL;go_wp2_with fail;refine(HE.1 _ _ hp (λe=>HO.1 (by rw[<-HQ.1,e];rfl))).mono ?_;intro e w7 hq;obtain⟨g,⟨q,hr,rfl⟩| ⟨x,j7,v,hr,rfl,⟨pa,pc,la,lc,rfl,rp,rl⟩,hp9⟩⟩:=hq.split
  ·exact PBd HK.1.gr g HQ hr
  replace HK:=S (HK.1.gb g);replace hp:=hp9;clear hp9;replace HQ:=HQo HQ hr;clear hr;have hs3:=g.size;have hkl3:=HK.1.lt;have d3:=HK.1.blk.cell' 4 rfl;have f3:=HK.1.blk.frozen 4;have hbL:b<L:=by have:=HK.1.bw;omega
  have hfr:∀q,An (w2).heap.size q->q<(w7).heap.size->but w L q:=λq hq _=>by have h1:(w2).heap.size<=q:=hq;(try simp at h1);exact⟨by omega,by omega⟩
  have hK4:=HK.1.layX (f:= .one x) (m:=1) (by simp[Fo.one,Ex.fo,Fo.len]) (by decide) (VE.rep (rp.mono hfr) (rl.mono hfr));have hp3:=(hp.set (L:=L) hbL 4 (.slice (some ⟨(w7).heap.size,0,none⟩) 1 1)).alloc (.cells (hdC (x).h (.slice pa (x).h.p.length pc) (.slice la (x).kids.len lc)).toArray 163 (0,0));replace HK:=S hK4;replace hp:=hp3;clear g rp rl hK4 hp3 hfr;rw[Rd.pure_f]at HQ;go_wp2;go_end0;exact Post.ok HK.1.gr HQ.1.symm ⟨rfl,_,_,_,_,_,HK.1⟩ hp
end
section
variable {P:Program}{md:Region.Mode}{ops:Array Oper}{Q:Exit->Act->World->Prop}
def Ee(ops:Array Oper)(listed:Array Bool):List Nat:=(List.range ops.size).filter λi=>!listed.getD i true
def Rb(hs:listed.size=ops.size)(hi:i∈Ee ops listed):(Ee ops (listed.setIfInBounds i true)).length<(Ee ops listed).length:=by
 have hlt:i<listed.size:=by
  have:=(List.mem_filter.1 hi).1;rw[List.mem_range]at this;omega
 have e:Ee ops (listed.setIfInBounds i true)=(Ee ops listed).filter λj=>decide (j≠i):=by
  unfold Ee;rw[List.filter_filter];apply List.filter_congr;intro j hj;rw[List.mem_range]at hj;by_cases h:j=i
  ·subst h;simp[Array.getD_eq_getD_getElem?,hlt]
  ·have h':¬i=j:=λe=>h e.symm;simp[Array.getD_eq_getD_getElem?,Array.getElem?_setIfInBounds,h,h']
 rw[e];exact List.length_filter_lt_length_iff_exists.2 ⟨i,hi,by simp⟩
def LN(hi:i∈Region.ready md ops listed):i∈Ee ops listed:=by
 unfold Region.ready at hi;obtain⟨h1,h2⟩:=List.mem_filter.1 hi;exact List.mem_filter.2 ⟨h1,by simp only[Bool.and_eq_true]at h2;exact h2.1⟩
def WD{I:Array Bool->Act->World->Prop}
 (hstep:∀listed a w,listed.size=ops.size->I listed a w->∀i∈Region.ready md ops listed,wpOp P ops Q i (I (listed.setIfInBounds i true)) a w)
 (hend:∀listed a w,listed.size=ops.size->I listed a w->Region.ready md ops listed=[]->Q .normal a w):
 ∀fuel listed a w,listed.size=ops.size->(Ee ops listed).length<=fuel->I listed a w->wpAny P md ops Q fuel listed a w:=by
 intro fuel;induction fuel with
 | zero=>
   intro listed a w hs hf h;have hr:Region.ready md ops listed=[]:=by
    cases hc:Region.ready md ops listed with
    |nil=>rfl
    | cons i rs=>
      have hm:i∈Ee ops listed:=LN (md:=md) (by rw[hc];exact List.mem_cons_self);have:=List.length_pos_of_mem hm;omega
   exact⟨hr,hend listed a w hs h hr⟩
 | succ fuel ih=>
   intro listed a w hs hf h;refine⟨λhr=>hend listed a w hs h hr,λi hi=>?_⟩;have hl:=Rb hs (LN hi);exact wpOp_mono (λa' w' h'=>ih _ a' w' (by simpa using hs) (by omega) h') (hstep listed a w hs h i hi)
def OM(md:Region.Mode)(o:Oper):List Nat:=(o.after.toList.filter (Region.binds md)).map (·.on)
def MH(hi:i∈Region.ready md ops listed):i<ops.size/\listed.getD i true=false/\∀o,ops[i]? =some o->∀d∈OM md o,listed.getD d false=true:=by
 unfold Region.ready at hi;obtain⟨h1,h2⟩:=List.mem_filter.1 hi;rw[List.mem_range]at h1;simp only[Bool.and_eq_true,Bool.not_eq_true']at h2;refine⟨h1,h2.1,λo ho d hd=>?_⟩;have h3:=h2.2;rw[ho]at h3;simp only[Option.map_some,Option.getD_some,Array.all_eq_true_iff_forall_mem]at h3;unfold OM at hd;obtain⟨e,he,rfl⟩:=List.mem_map.1 hd;obtain⟨he,hb⟩:=List.mem_filter.1 he;have:=h3 e (by simpa using he);rw[hb]at this;simpa using this
end
def OwnB(w:World)(B:Nat)(v:Value)(a:Bl):Prop:=∃cs,w.ownsRow B 134 10 v a.len cs/\RepT (λq=>B<=q/\v.ownBlock≠some q) w a false cs
def OwnB.gb{r:Option Nat}(h:OwnB w B v a)(g:w.grownBy w1 r)(hk:∀k,B<=k->k<w.heap.size->some k≠r):OwnB w1 B v a:=by
 obtain⟨cs,h1,h2⟩:=h;exact⟨cs,Cs h1 g hk,h2.gb g λk hk1 hk2=>hk k hk1.1 hk2⟩
def OwnB.rep(h:OwnB w B v a):RepV (An B) w false v a:=by
 obtain⟨cs,h1,h2⟩:=h;exact⟨cs,C0 h1,h2.mono' λk hk _=>hk.1⟩
def OwnB.fresh(h:OwnB w B v a)(hB:B<=w.heap.size)(q:Nat)(hq:w.heap.size<=q):B<=q/\v.ownBlock≠some q:=by
 obtain⟨cs,h1,_⟩:=h;exact⟨by omega,λe=>by have:=(h1.lt q e).2;omega⟩
def OwnB.snoc{j cap:Nat}{cs:List Value}(h1:w.ownsRow B 134 10 v a.len cs)(h2:RepT (λq=>B<=q/\v.ownBlock≠some q) w a false cs)
 {s:Sd} {c:Bl} {pa xa na fa wa ba:Option Addr} {pc xc nc fc wc bc:Nat} {okx:Nat->Prop} (k1:SdRep okx w s pa xa na fa wa pc xc nc fc wc) (k2:RepV okx w true (.slice ba c.len bc) c) (hok:∀q,okx q->q<w.heap.size->B<=q/\v.ownBlock≠some q)
 (ho:w1.ownsRow B 134 10 (.slice (some ⟨j,0,none⟩) (a.len+1) cap) (a.len+1) (cs++sdC s (.slice pa s.p.length pc) (.slice xa s.x.len xc) (.slice ba c.len bc) (.slice na s.n.len nc) (.slice fa s.f.len fc) (.slice wa s.w.len wc))) (hg:w.grownBy w1 v.ownBlock) (hat:v.ownBlock=some j\/j=w.heap.size):
 OwnB w1 B (.slice (some ⟨j,0,none⟩) (a.len+1) cap) (a.app (.st s c .nil)):=by
 have hlen:(a.app (.st s c .nil)).len=a.len+1:=by rw[Bl.len_app];rfl
 have hfr:∀q,(B<=q/\v.ownBlock≠some q)->q<w.heap.size->(B<=q/\(Value.slice (some ⟨j,0,none⟩) (a.len+1) cap).ownBlock≠some q)/\some q≠v.ownBlock:=λq hq hl=>⟨⟨hq.1,λe=>by(rcases FR hat e with h|h;exact hq.2 h;omega)⟩,λe=>hq.2 e.symm⟩;obtain⟨kcs,c1,c2⟩:=k2;have hT:RepT (λq=>B<=q/\v.ownBlock≠some q) w (a.app (.st s c .nil)) false (cs++sdC s (.slice pa s.p.length pc) (.slice xa s.x.len xc) (.slice ba c.len bc) (.slice na s.n.len nc) (.slice fa s.f.len fc) (.slice wa s.w.len wc)):=
  h2.app ⟨pa,xa,na,fa,wa,ba,pc,xc,nc,fc,wc,bc,kcs,[],by simp,⟨k1.p.mono hok,k1.x.mono hok,k1.n.mono hok,k1.f.mono hok,k1.w.mono hok⟩,c1.mono hok,RepT.mono hok c2,rfl⟩
 exact⟨_,by rw[hlen];exact ho,((RepT.mono hfr hT).gb hg (λq hq _=>hq.2)).mono' λq hq _=>hq.1⟩
section
variable {st:RS}
end
open Go.Lib
def UM(s:Bs)(k:Nat)(hk:k<=s.length):Bd s k=34::(s.take k).flatMap qtB:=by
 induction k with
 |zero=>simp[Bd]
 | succ k ih=>
   have hk':k<s.length:=hk;rw[Bd,ih (by omega),List.take_add_one,List.getElem?_eq_getElem hk',List.flatMap_append];have:bAt s k=s[k]:=by simp[bAt,hk']
   rw[this];rw[Option.toList_some,List.flatMap_singleton];rfl
def Du(s:Bs):qtM s=34::(s.flatMap qtB++[34]):=by
 rw[qtM,UM s _ (nR _),List.take_length];rfl
def GC(h:n<16):(A4 n).toNat=if n<10 then 48+n else 87+n:=by
 rw[A4,UInt8.toNat_ofNat'];split<;>omega
def Kz{b:UInt8}{x:UInt8}(h:x∈qtB b):32<=x.toNat/\x.toNat<=126/\x≠34:=by
 unfold qtB at h;have h16:=BR (b:=b);have e34:(34:UInt8).toNat=34:=rfl;split at h
 ·simp only[List.mem_cons,List.not_mem_nil,or_false]at h;have hx:∀n,n<16->32<=(A4 n).toNat/\(A4 n).toNat<=126/\A4 n≠34:=by
   intro n hn;have h1:=GC hn;refine⟨by rw[h1];split<;>omega,by rw[h1];split<;>omega,λe=>?_⟩;rw[e,e34]at h1;split at h1<;>omega
  rcases h with rfl|rfl|rfl
  ·decide
  ·exact hx _ h16.1
  ·exact hx _ h16.2
 ·rename_i he;simp only[List.mem_cons,List.not_mem_nil,or_false]at h;subst h;simp[Cj]at he;refine⟨by omega,by omega,λe=>?_⟩;rw[e]at he;simp at he
def YA{b c:UInt8}(h:qtB b++r=qtB c++r'):b=c/\r=r':=by
 have hb:=BR (b:=b);have hc:=BR (b:=c);have e37:∀d:UInt8,Cj d=false->d≠37:=by
  intro d hd e;rw[e]at hd;exact absurd hd (by decide)
 unfold qtB at h;cases hb1:Cj b<;>cases hc1:Cj c<;>simp only[hb1,hc1,if_true,if_false,Bool.false_eq_true,List.cons_append,List.nil_append,List.cons.injEq]at h
 ·exact h
 ·exact absurd h.1 (e37 b hb1)
 ·exact absurd h.1.symm (e37 c hc1)
 ·obtain⟨_,h1,h2,h3⟩:=h;refine⟨?_,h3⟩;have f1:=congrArg UInt8.toNat h1;have f2:=congrArg UInt8.toNat h2;rw[GC hb.1,GC hc.1]at f1;rw[GC hb.2,GC hc.2]at f2;apply UInt8.toNat.inj;split at f1<;>split at f1<;>split at f2<;>split at f2<;>omega
def Wi(h:s.flatMap qtB++34::r=s'.flatMap qtB++34::r'):s=s'/\r=r':=by
 have hne:∀(b:UInt8)(t q:Bs),qtB b++t≠34::q:=by
  intro b t q e;have hl:=Hs b;cases hq:qtB b with
  |nil=>rw[hq]at hl;simp at hl
  | cons x y=>
    rw[hq]at e;have:=(Kz (b:=b) (x:=x) (by rw[hq];simp)).2.2;simp at e;exact this e.1
 induction s generalizing s' with
 | nil=>
   cases s' with
   |nil=>simp at h;exact⟨rfl,h⟩
   | cons c t=>
     rw[fC,List.append_assoc]at h;exact absurd h.symm (hne _ _ _)
 | cons b s ih=>
   cases s' with
   | nil=>
     rw[fC,List.append_assoc]at h;exact absurd h (hne _ _ _)
   | cons c t=>
     rw[fC,fC,List.append_assoc,List.append_assoc]at h;obtain⟨rfl,h2⟩:=YA h;obtain⟨rfl,h3⟩:=ih h2;exact⟨rfl,h3⟩
def Ln(h:qtM s++r=qtM s'++r'):s=s'/\r=r':=by
 rw[Du,Du]at h;simp only[List.cons_append,List.append_assoc,List.nil_append,List.cons.injEq,true_and]at h;exact Wi h
def B8(b:UInt8):Bool:=b==45||AL b
def numI:Bs->Int
 | 45::r=>- AA r
 |l=>AA l
def If(u:Nat):∃x y,decDigits u=x::y/\x≠45:=by
 have h:=G8 u;cases hd:decDigits u with
 | nil=>
   have:=decDigits_length u;rw[hd]at this;have h1:=M5 u;simp at this;rw[<-this]at h1;simp at h1;subst h1;rw[decDigits,dif_pos (by omega)]at hd;simp at hd
 | cons x y=>
   rw[hd]at h;refine⟨x,y,rfl,λe=>?_⟩;subst e;simp[AL]at h
def N0(n:Int):numI (itoa n)=n:=by
 unfold itoa;split
 ·rename_i h;show-AA (decDigits n.natAbs)=n;rw[Jd];omega
 ·rename_i h;obtain⟨x,y,e,hx⟩:=If n.toNat;have:numI (decDigits n.toNat)=AA (decDigits n.toNat):=by
   rw[e];unfold numI;split
   ·rename_i h';simp at h';exact absurd h'.1 hx
   ·rfl
  rw[this,Jd];omega
def X2{n:Int}(h:itoa n=itoa m):n=m:=by rw[<-N0 n,h,N0]
def DX(n:Int):(itoa n).all B8=true:=by
 have hd:∀u,(decDigits u).all B8=true:=by
  intro u;have:=G8 u;rw[List.all_eq_true]at this ⊢;intro x hx;simp[B8,this x hx]
 unfold itoa;split
 ·simp[B8,hd]
 ·exact hd _
def Jm(n:Int):itoa n≠[]:=by
 unfold itoa;split
 ·simp
 ·obtain⟨x,y,e,_⟩:=If n.toNat;rw[e];simp
def stop(r:Bs):Prop:=∀x t,r=x::t->B8 x=false
def O7{a b:Bs}(ha:a.all B8=true)(hb:b.all B8=true)(hr:stop r)(hr':stop r')(h:a++r=b++r'):a=b/\r=r':=by
 induction a generalizing b with
 | nil=>
   cases b with
   |nil=>exact⟨rfl,by simpa using h⟩
   | cons y b=>
     simp at h hb;have:=hr _ _ h;rw[hb.1]at this;cases this
 | cons x a ih=>
   cases b with
   | nil=>
     simp at h ha;have:=hr' _ _ h.symm;rw[ha.1]at this;cases this
   | cons y b=>
     simp at h ha hb;obtain⟨rfl,h2⟩:=h;obtain⟨rfl,h3⟩:=ih (b:=b) (by simpa using ha.2) (by simpa using hb.2) h2;exact⟨rfl,h3⟩
def Hj{n:Int}(hr:stop r)(hr':stop r')(h:itoa n++r=itoa m++r'):n=m/\r=r':=by
 obtain⟨h1,h2⟩:=O7 (DX n) (DX m) hr hr' h;exact⟨X2 h1,h2⟩
def Ec(r:Bs):stop (32::r):=by rintro x t e;cases e;rfl
def Hg(r:Bs):stop (10::r):=by rintro x t e;cases e;rfl
def Sj(f:α->Bs)(l:List α)(k:Nat)(hk:k<=l.length):Bv f l k=(l.take k).flatMap f:=by
 induction k with
 |zero=>simp[Bv]
 | succ k ih=>
   have hk':k<l.length:=hk;rw[Bv,ih (by omega),List.take_add_one,List.getElem?_eq_getElem hk',List.flatMap_append,Option.toList_some,List.flatMap_singleton]
def JK(f:α->Bs)(l:List α):Bv f l l.length=l.flatMap f:=by
 rw[Sj f l _ (nR _),List.take_length]
def GZ(u:Un):BM u=CR u++u.row.flatMap A3++[10]++u.code.flatMap AO:=by
 rw[BM,JK,JK]
def Fi(us:List Un):AG us=us.flatMap BM:=JK _ _
def Bx(us:List Un)(n:Int):Bs:=AG us++([115,117,109,32]++itoa n++[10])
def T1{c d:Cd}(h:AO c++r=AO d++r'):c=d/\r=r':=by
 unfold AO at h;simp only[List.append_assoc,List.cons_append,List.nil_append]at h;obtain⟨h1,h⟩:=Hj (Ec _) (Ec _) h;simp only[List.cons.injEq,true_and]at h;obtain⟨h2,h⟩:=Hj (Ec _) (Ec _) h;simp only[List.cons.injEq,true_and]at h;obtain⟨h3,h⟩:=Hj (Ec _) (Ec _) h;simp only[List.cons.injEq,true_and]at h;obtain⟨h4,h9⟩:=Ln h;simp only[List.cons.injEq,true_and]at h9;clear h;obtain⟨⟩:=c;obtain⟨⟩:=d;simp only at h1 h2 h3 h4;subst h1 h2 h3 h4;exact⟨rfl,h9⟩
def far(r:Bs):Prop:=∀x t,r=x::t->B8 x=false
def T3{l m:List Cd}(hr:far r)(hr':far r')(h:l.flatMap AO++r=m.flatMap AO++r'):l=m/\r=r':=by
 have hne:∀(c:Cd)(t q:Bs),far q->AO c++t≠q:=by
  intro c t q hq e;have h1:=DX c.op;have h2:=Jm c.op;cases hi:itoa c.op with
  |nil=>exact h2 hi
  | cons x y=>
    rw[hi]at h1;have:q=x::(y++([32]++itoa c.a++[32]++itoa c.b++[32]++qtM c.s++[10]++t)):=by
     rw[<-e,AO,hi];simp
    have h3:=hq _ _ this;simp at h1;rw[h1.1]at h3;cases h3
 induction l generalizing m with
 | nil=>
   cases m with
   |nil=>exact⟨rfl,by simpa using h⟩
   | cons d m=>
     rw[fC,List.append_assoc]at h;exact absurd h.symm (hne _ _ _ hr)
 | cons c l ih=>
   cases m with
   | nil=>
     rw[fC,List.append_assoc]at h;exact absurd h (hne _ _ _ hr')
   | cons d m=>
     rw[fC,fC,List.append_assoc,List.append_assoc]at h;obtain⟨rfl,h2⟩:=T1 h;obtain⟨rfl,h3⟩:=ih h2;exact⟨rfl,h3⟩
def Xk{l m:List Int}(h:l.flatMap A3++10::r=m.flatMap A3++10::r'):l=m/\r=r':=by
 have hst:∀(k:List Int)(t:Bs),stop (k.flatMap A3++10::t):=by
  intro k t;cases k with
  |nil=>exact Hg _
  |cons i k=>rw[fC,A3];exact Ec _
 induction l generalizing m with
 | nil=>
   cases m with
   |nil=>simpa using h
   |cons j m=>rw[fC,A3]at h;simp at h
 | cons i l ih=>
   cases m with
   |nil=>rw[fC,A3]at h;simp at h
   | cons j m=>
     rw[fC,fC,A3,A3]at h;simp only[List.cons_append,List.append_assoc,List.cons.injEq,true_and]at h;obtain⟨rfl,h2⟩:=Hj (hst _ _) (hst _ _) h;obtain⟨rfl,h3⟩:=ih h2;exact⟨rfl,h3⟩
def Oy(r:Bs):far ([115,117,109,32]++r):=by rintro x t e;cases e;rfl
def MW(us:List Un)(hr:far r):far (us.flatMap BM++r):=by
 cases us with
 |nil=>simpa using hr
 | cons u us=>
   rw[fC,BM,CR];rintro x t e;simp only[List.cons_append,List.append_assoc]at e;cases e;rfl
def Ws{v:Un}(hr:far r)(hr':far r')(h:BM u++r=BM v++r'):u=v/\r=r':=by
 rw[GZ,GZ,CR,CR]at h;simp only[List.append_assoc,List.cons_append,List.nil_append,List.cons.injEq,true_and]at h;obtain⟨h1,h⟩:=Ln h;obtain⟨h2,h⟩:=Xk h;obtain⟨h3,h9⟩:=T3 hr hr' h;clear h;obtain⟨⟩:=u;obtain⟨⟩:=v;simp only at h1 h2 h3;subst h1 h2 h3;exact⟨rfl,h9⟩
def KF{n:Int}(h:Bx us n=Bx vs m):us=vs/\n=m:=by
 unfold Bx at h;rw[Fi,Fi]at h;simp only[List.append_assoc]at h;have hne:∀(u:Un)(t q:Bs),BM u++t≠[115,117,109,32]++q:=by
  intro u t q e;rw[BM,CR]at e;simp at e
 have hend:∀{i j:Int},[115,117,109,32]++(itoa i++[10])=[115,117,109,32]++(itoa j++[10])->i=j:=by
  intro i j e;have e:=List.append_cancel_left e;exact(Hj (Hg _) (Hg _) e).1
 induction us generalizing vs with
 | nil=>
   cases vs with
   |nil=>exact⟨rfl,hend (by simpa using h)⟩
   | cons v vs=>
     rw[fC,List.append_assoc]at h;exact absurd h.symm (hne _ _ _)
 | cons u us ih=>
   cases vs with
   | nil=>
     rw[fC,List.append_assoc]at h;exact absurd h (hne _ _ _)
   | cons v vs=>
     rw[fC,fC,List.append_assoc,List.append_assoc]at h;obtain⟨rfl,h2⟩:=Ws (MW _ (Oy _)) (MW _ (Oy _)) h;obtain⟨rfl,h3⟩:=ih h2;exact⟨rfl,h3⟩
def D4(acc:Nat)(l:Bs):Nat:=l.foldl (λn b=>10*n+(b.toNat-48)) acc
def N3(l:Bs)(b:UInt8):D4 0 (l++[b])=10*D4 0 l+(b.toNat-48):=by
 unfold D4;rw[List.foldl_append];rfl
def Je(u:Nat):D4 0 (decDigits u)=u:=by
 induction u using Nat.strongRecOn with
 | ind u ih=>
   rw[decDigits];split
   ·rename_i h;show D4 0 ([]++[UInt8.ofNat (48+u)])=u;rw[N3,GA h];show 10*0+_=_;omega
   ·rename_i h;rw[N3,ih (u/10) (by omega),GA (by omega)];omega
def Ox(l:Bs)(acc:Nat):acc<=D4 acc l:=by
 induction l generalizing acc with
 |nil=>exact nR _
 | cons c r ih=>
   have:=ih (10*acc+(c.toNat-48));show acc<=D4 (10*acc+(c.toNat-48)) r;omega
def pu_ok(l:Bs)(acc:Nat)(hd:l.all AL=true)(hu:D4 acc l<18446744073709551616):parseUint10 acc l= .ok (D4 acc l):=by
 induction l generalizing acc with
 |nil=>rfl
 | cons c r ih=>
   simp only[List.all_cons,Bool.and_eq_true]at hd;have hc:=hd.1;simp only[AL,Bool.and_eq_true,decide_eq_true_eq]at hc;have h1:=Ox r (10*acc+(c.toNat-48));have hu':D4 (10*acc+(c.toNat-48)) r<18446744073709551616:=hu;rw[parseUint10,if_pos hc,if_neg (by omega),if_neg (by omega),show acc*10+(c.toNat-48)=10*acc+(c.toNat-48)by omega,ih _ hd.2 hu'];rfl
def Ow(u:Nat)(hu:u<18446744073709551616):parseMag (decDigits u)= .ok u:=by
 obtain⟨x,y,e,_⟩:=If u;unfold parseMag;rw[if_neg (by rw[e];simp),pu_ok _ _ (G8 u) (by rw[Je];exact hu),Je]
def K0(h:A5 m):atoiAll (itoa m)= .ok m:=by
 obtain⟨h0,h1⟩:=h;unfold itoa;split
 ·rename_i hm;unfold atoiAll;simp only[show(45:UInt8).toNat=45 from rfl,or_true,if_true];rw[Ow _ (by omega)];simp only[not_true_eq_false,false_and,if_false,true_and,if_true];rw[if_neg (by omega)];congr 1;omega
 ·rename_i hm;have hg:=G8 m.toNat;have hq:=Ow m.toNat (by omega);obtain⟨x,y,e,hx⟩:=If m.toNat;rw[e]at hg hq ⊢;have hx1:48<=x.toNat/\x.toNat<=57:=by
   simp only[List.all_cons,Bool.and_eq_true]at hg;simpa[AL]using hg.1
  unfold atoiAll;simp only;rw[if_neg (by omega),hq];simp only;rw[if_neg (by omega),if_neg (by omega),if_neg (by omega)];congr 1;omega
def Errs (w : World) : Prop := (∃ tp p, w.var? Tryz.prog "strconv.ErrSyntax" = some #[.iface tp p]) /\ ∃ tp p, w.var? Tryz.prog "strconv.ErrRange" = some #[.iface tp p]
def JA: Tryz.prog.globalNamed "strconv.ErrSyntax" = some 1 := by kernel_rfl
def L7: Tryz.prog.globalNamed "strconv.ErrRange" = some 2 := by kernel_rfl
def Errs.gb{r:Option Nat}(h:Errs w)(g:w.grownBy w1 r)(hr:∀k,r=some k->12<=k):Errs w1:=by
 have hb:∀k,k<12->k<w.heap.size->w1.heap[k]? =w.heap[k]?:=λk hk hl=>g.block k hl (λe=>by have:=hr k e.symm;omega);have hl:∀k (cs:Array Value),(match w.heap[k]? with|some (Obj.cells cs elem frozen)=>some cs|x=>none)=some cs->k<w.heap.size:=by
  intro k cs hc;rcases Nat.lt_or_ge k w.heap.size with h' |h'
  ·exact h'
  ·rw[Array.getElem?_eq_none h']at hc;simp at hc
 obtain⟨⟨t1,p1,h1⟩,⟨t2,p2,h2⟩⟩:=h;unfold World.var? at h1 h2;simp only[JA,L7,Option.bind_some]at h1 h2;refine⟨⟨t1,p1,?_⟩,⟨t2,p2,?_⟩⟩
 ·unfold World.var?;simp only[JA,Option.bind_some];rw[hb _ (by decide) (hl _ _ h1)];exact h1
 ·unfold World.var?;simp only[L7,Option.bind_some];rw[hb _ (by decide) (hl _ _ h2)];exact h2
def Hi(s:Bs)(hs:s.length<=1000000000)(hp:Pow w)(he:Errs w):
 Calls Tryz.prog 17 #[str s] w λe w'=>∃n b,e= .returned (.tuple #[.int .i64 n,.bool b])/\(b=true->s=itoa n/\A5 n)/\(∀m,A5 m->s=itoa m->b=true/\n=m)/\w.grownBy w' none:=by
 have hz:(⟨s.toArray⟩:ByteArray).size=s.length:=by simp[ByteArray.size]
 cases hc:atoiAll s with
 | ok v=>
   have hv:A5 v:=by
    unfold atoiAll at hc;split at hc
    ·cases hc
    ·simp only at hc;split at hc
     ·cases hc
     ·cases hc
     ·split at hc
      ·cases hc
      ·split at hc
       ·cases hc
       ·cases hc;rename_i u _ h1 h2;unfold A5;split<;>omega
   have HC:=S (strconv_Atoi_ok ⟨s.toArray⟩ (by rw[hz];omega) v (by simpa using hc) w);go_enter func17,ntmps17;go_wp2_with fail;refine mR HC.1 λw1 hw1=>?_;have g1:w.grownBy w1 none:=by
    rcases hw1 with rfl| ⟨t,rfl⟩
    ·exact Aa _ _
    ·exact gbB (Go.Joins.below_bytesWorld _ w _ t (nR _)) none
   clear HC hw1;go_wp2_with fail;refine mR (Jb (hp.gb g1) v hv.1 hv.2) λw2 g2=>?_;go_wp2;go_ret2;refine⟨v,decide (itoa v=s),?_,λh=>?_,λm hm e=>?_,Z g1 g2⟩
   ·have:(itoa v==s)=decide (itoa v=s):=by rw[Bool.eq_iff_iff];simp
    simp[str,this]
   ·exact⟨(of_decide_eq_true h).symm,hv⟩
   ·subst e;rw[K0 hm]at hc;cases hc;exact⟨by simp,rfl⟩
 | range=>
   obtain⟨_,⟨tp,p,h1⟩⟩:=he;have HC:=S (strconv_Atoi_range_var ⟨s.toArray⟩ (by rw[hz];omega) (by simpa using hc) tp p w h1);clear h1;go_enter func17,ntmps17;go_wp2_with fail;refine HC.1.mono ?_;rintro e w1 ⟨N,rfl,_,_,hb⟩;go_wp2;go_ret2;refine⟨_,false,rfl,λh=>absurd h (by decide),λm hm e=>?_,gbB hb none⟩;subst e;rw[K0 hm]at hc;cases hc
 | _=>
   obtain⟨⟨tp,p,h1⟩,_⟩:=he;have HC:=S (strconv_Atoi_syntax_var ⟨s.toArray⟩ (by rw[hz];omega) hc tp p w h1);clear h1;go_enter func17,ntmps17;go_wp2_with fail;refine HC.1.mono ?_;rintro e w1 ⟨N,rfl,_,_,hb⟩;go_wp2;go_ret2;refine⟨_,false,rfl,λh=>absurd h (by decide),λm hm e=>?_,gbB hb none⟩;subst e;rw[K0 hm]at hc;cases hc
def DP(n:Int)(b:UInt8):Int:=if b=45 then n else wrap64 (wrap64 (10*n)-((b.toNat:Int)-48))
def Dm(l:Bs):Int:=l.foldl DP 0
def OB(n:Int):A5 (wrap64 n):=by
 unfold A5 wrap64;omega
def XF(l:Bs):A5 (Dm l):=by
 have h:∀(l:Bs)(n:Int),A5 n->A5 (l.foldl DP n):=by
  intro l;induction l with
  |nil=>intro n h;exact h
  | cons b r ih=>
    intro n h;refine ih _ ?_;unfold DP;split
    ·exact h
    ·exact OB _
 exact h l 0 (by unfold A5;omega)
def SA(l:Bs)(b:UInt8):Dm (l++[b])=DP (Dm l) b:=by
 unfold Dm;rw[List.foldl_append];rfl
def Uw(l:Bs)(acc:Nat)(hd:l.all AL=true)(hu:D4 acc l<=9223372036854775808):l.foldl DP (-(acc:Int))= -((D4 acc l:Nat):Int):=by
 induction l generalizing acc with
 |nil=>rfl
 | cons c r ih=>
   simp only[List.all_cons,Bool.and_eq_true]at hd;have hc:=hd.1;simp only[AL,Bool.and_eq_true,decide_eq_true_eq]at hc;have h1:=Ox r (10*acc+(c.toNat-48));have hu':D4 (10*acc+(c.toNat-48)) r<=9223372036854775808:=hu;have hne:c≠45:=by
    rintro rfl;simp at hc
   have e:DP (-(acc:Int)) c= -((10*acc+(c.toNat-48):Nat):Int):=by
    unfold DP;rw[if_neg hne];have e1:wrap64 (10* -(acc:Int))=10* -(acc:Int):=by unfold wrap64;omega
    rw[e1];unfold wrap64;omega
   rw[List.foldl_cons,e,ih _ hd.2 hu'];rfl
def Dg(l:Bs):Int:=if l.head? =some 45 then Dm l else wrap64 (- Dm l)
def O5(l:Bs):A5 (Dg l):=by
 unfold Dg;split
 ·exact XF _
 ·exact OB _
def Nj(h:A5 m):Dg (itoa m)=m:=by
 obtain⟨h0,h1⟩:=h;have hN:∀u:Nat,u<=9223372036854775808->Dm (decDigits u)= -(u:Int):=by
  intro u hu;have:=Uw (decDigits u) 0 (G8 u) (by rw[Je];exact hu);rw[Je]at this;exact this
 unfold itoa;split
 ·rename_i hm;show Dg (45::decDigits m.natAbs)=m;have e:Dm (45::decDigits m.natAbs)=Dm (decDigits m.natAbs):=rfl;rw[Dg,if_pos (show(45::decDigits m.natAbs).head? =some 45 from rfl),e,hN _ (by omega)];omega
 ·rename_i hm;have e:=hN m.toNat (by omega);obtain⟨x,y,e2,hx⟩:=If m.toNat;rw[Dg,e,if_neg (by rw[e2];simp;exact hx)];unfold wrap64;omega
def Kn{b:UInt8}:B8 b=true↔b.toNat=45\/48<=b.toNat/\b.toNat<=57:=by
 have e:b=45↔b.toNat=45:=by
  constructor
  ·rintro rfl;rfl
  ·intro h;exact UInt8.toNat_inj.1 h
 simp[B8,AL,e]
def K3(s:Bs)(h:i<=k):s.drop i=(s.drop i).take (k-i)++s.drop k:=by
 have:=(List.take_append_drop (k-i) (s.drop i)).symm;rwa[List.drop_drop,show i+(k-i)=k by omega]at this
def YH(h:k<s.length->B8 (bAt s k)=false):stop (s.drop k):=by
 intro x t e;have hk:k<s.length:=by
  rcases Nat.lt_or_ge k s.length with h' |h'
  ·exact h'
  ·rw[List.drop_eq_nil_of_le h']at e;cases e
 have e2:=List.drop_eq_getElem_cons hk;rw[e2]at e;cases e;rw[<-B0 hk];exact h hk
def Vh(s:Bs)(h:i<=k)(hk:k<s.length):(s.drop i).take (k+1-i)=(s.drop i).take (k-i)++[bAt s k]:=by
 rw[show k+1-i=(k-i)+1 by omega,List.take_add_one,List.getElem?_drop,show i+(k-i)=k by omega,List.getElem?_eq_getElem hk,B0 hk];rfl
def Yf(s:Bs)(h:i<=k)(hk:k<=s.length)(hn:∀j,i<=j->j<k->B8 (bAt s j)=true):((s.drop i).take (k-i)).all B8=true:=by
 rw[List.all_eq_true];intro x hx;obtain⟨j,hj,rfl⟩:=List.mem_iff_getElem.1 hx;simp at hj;have:=hn (i+j) (by omega) (by omega);rw[B0 (by omega)]at this;simpa using this
structure Rdr(w:World)(b:Nat)(s:Bs)(i:Nat)(ok:Bool):Prop where
 blk:Blk w b [str s,.int .i64 i,.bool ok] 52
 le:i<=s.length
 few:s.length<=1048576
def Aw(s:Bs)(i:Nat)(ok:Bool)(t:Bs):Bool:=ok&&(s.drop i).take t.length==t
def Cu(s:Bs)(i:Nat)(ok:Bool)(t:Bs):Nat:=if Aw s i ok t then i+t.length else i
section
variable {ok:Bool}
def Rdr.gb(h:Rdr w b s i ok){r:Option Nat}(g:w.grownBy w1 r)(hr:some b≠r):Rdr w1 b s i ok:=⟨h.blk.gb g hr,h.le,h.few⟩
def Rdr.gbN(h:Rdr w b s i ok)(g:w.grownBy w1 none):Rdr w1 b s i ok:=h.gb g (by simp)
def Rdr.c0(h:Rdr w b s i ok):w.cell? ⟨b,0,none⟩=some (str s):=h.blk.cell' 0 rfl
def Rdr.c1(h:Rdr w b s i ok):w.cell? ⟨b,1,none⟩=some (.int .i64 i):=h.blk.cell' 1 rfl
def Rdr.c2(h:Rdr w b s i ok):w.cell? ⟨b,2,none⟩=some (.bool ok):=h.blk.cell' 2 rfl
def Rdr.bad(h:Rdr w b s i ok):Rdr (w.setCell ⟨b,2,none⟩ (.bool false)) b s i false:=⟨(h.blk.set 2 _).of_eq rfl rfl,h.le,h.few⟩
def Rdr.go(h:Rdr w b s i ok)(hk:k<=s.length):Rdr (w.setCell ⟨b,1,none⟩ (.int .i64 k)) b s k ok:=⟨(h.blk.set 1 _).of_eq rfl rfl,hk,h.few⟩
def Ht(h:Rdr w b s i ok)(t:Bs)(ht:t.length<=100):
 Calls Tryz.prog 21 #[.pointer (some ⟨b,0,none⟩),str t] w (ρ w (.bool (Aw s i ok t))):=by
 have c0:=h.c0;have c1:=h.c1;have c2:=h.c2;have hle:=h.le;have hfew:=h.few;have hw1:IntKind.i64.wrap ((s.length:Int)-(i:Int))=(s.length:Int)-(i:Int):=IntWalk.i64_in _ (by omega);have hw2:IntKind.i64.wrap ((i:Int)+(t.length:Int))=(i:Int)+(t.length:Int):=IntWalk.i64_in _ (by omega);cases ok with
 | false=>
   go_enter func21,ntmps21;go_wp2_with fail;go_quiet(fail);go_wp2;go_ret;exact⟨rfl,Aj (Aa _ _) _⟩
 | true=>
   have HT:=S (show Aw s i true t=((s.drop i).take t.length==t)from rfl);by_cases hl:i+t.length<=s.length
   ·have h1:decide ((t.length:Int)<=(s.length:Int)-(i:Int))=true:=by simp;omega
    have h2:(0:Int)<=(i:Int):=by omega
    have h3:(i:Int)<=(i:Int)+(t.length:Int):=by omega
    have h4:(i:Int)+(t.length:Int)<=(s.length:Int):=by omega
    go_enter func21,ntmps21;go_wp2_with fail;go_quiet(fail);go_wp2;go_ret;have e:((⟨s.toArray⟩:ByteArray).extract i (i+t.length)).toList=(s.drop i).take t.length:=by rw[Cf,show i+t.length-i=t.length by omega];simp
    refine⟨?_,Aj (Aa _ _) _⟩;show Ending.returned (Value.bool (((⟨s.toArray⟩:ByteArray).extract i (i+t.length)).toList==t))=_;rw[e,HT.1]
   ·have h1:decide ((t.length:Int)<=(s.length:Int)-(i:Int))=false:=by simp;omega
    have h2:Aw s i true t=false:=by
     rw[HT.1];rw[beq_eq_false_iff_ne];intro e;have:=congrArg List.length e;simp at this;omega
    have HF:=S h2;clear h2;go_enter func21,ntmps21;go_wp2_with fail;go_quiet(fail);go_wp2;go_ret;exact⟨by rw[HF.1];rfl,Aj (Aa _ _) _⟩
def Ea(h:Rdr w b s i ok)(t:Bs)(ht:t.length<=100):
 Calls Tryz.prog 22 #[.pointer (some ⟨b,0,none⟩),str t] w λe w'=>e= .returned (.tuple #[])/\w.grownBy w' (some b)/\Rdr w' b s (Cu s i ok t) (Aw s i ok t):=by
 have c0:=h.c0;have c1:=h.c1;have c2:=h.c2;have f1:=h.blk.frozen 1;have f2:=h.blk.frozen 2;have hlt:=h.blk.lt;have hle:=h.le;have hfew:=h.few;have hw1:IntKind.i64.wrap ((s.length:Int)-(i:Int))=(s.length:Int)-(i:Int):=IntWalk.i64_in _ (by omega);have hw2:IntKind.i64.wrap ((i:Int)+(t.length:Int))=(i:Int)+(t.length:Int):=IntWalk.i64_in _ (by omega);have HH:=S h;clear h;cases ok with
 | false=>
   go_enter func22,ntmps22;go_wp2_with fail;go_quiet(fail);go_wp2
   (try simp only[Exit.inBlock,Exit.then]);refine bZ (results_none rfl _ _ _) rfl ?_;exact⟨rfl,Ai (Aj (Aa _ _) _) 2 _,(HH.1.gbN (Aj (Aa _ _) _)).bad⟩
 | true=>
   by_cases hl:i+t.length<=s.length
   ·have h1:decide ((s.length:Int)-(i:Int)<(t.length:Int))=false:=by simp;omega
    have h2:(0:Int)<=(i:Int):=by omega
    have h3:(i:Int)<=(i:Int)+(t.length:Int):=by omega
    have h4:(i:Int)+(t.length:Int)<=(s.length:Int):=by omega
    have e:((⟨s.toArray⟩:ByteArray).extract i (i+t.length)).toList=(s.drop i).take t.length:=by rw[Cf,show i+t.length-i=t.length by omega];simp
    cases hb:(s.drop i).take t.length==t with
    | true=>
      have HT:=S (show Aw s i true t=true from hb);have hq:(((⟨s.toArray⟩:ByteArray).extract i (i+t.length)).toList==t)=true:=by rw[e,hb]
      clear e hb;go_enter func22,ntmps22;go_wp2_with fail;go_quiet(fail);go_wp2;go_end0;rw[Cu,if_pos HT.1,HT.1];exact⟨rfl,Ai (Aj (Aa _ _) _) 1 _,(HH.1.gbN (Aj (Aa _ _) _)).go (k:=i+t.length) hl⟩
    | false=>
      have HT:=S (show Aw s i true t=false from hb);have hq:(((⟨s.toArray⟩:ByteArray).extract i (i+t.length)).toList==t)=false:=by rw[e,hb]
      clear e hb;go_enter func22,ntmps22;go_wp2_with fail;go_quiet(fail);go_wp2
      (try simp only[Exit.inBlock,Exit.then]);refine bZ (results_none rfl _ _ _) rfl ?_;rw[Cu,if_neg (by rw[HT.1];decide),HT.1];exact⟨rfl,Ai (Aj (Aa _ _) _) 2 _,(HH.1.gbN (Aj (Aa _ _) _)).bad⟩
   ·have h1:decide ((s.length:Int)-(i:Int)<(t.length:Int))=true:=by simp;omega
    have HT:=S (show Aw s i true t=false by
     show((s.drop i).take t.length==t)=false;rw[beq_eq_false_iff_ne];intro e;have:=congrArg List.length e;simp at this;omega)
    go_enter func22,ntmps22;go_wp2_with fail;go_quiet(fail);go_wp2
    (try simp only[Exit.inBlock,Exit.then]);refine bZ (results_none rfl _ _ _) rfl ?_;rw[Cu,if_neg (by rw[HT.1];decide),HT.1];exact⟨rfl,Ai (Aj (Aa _ _) _) 2 _,(HH.1.gbN (Aj (Aa _ _) _)).bad⟩
def dgM(c:Nat):Int:=if 48<=c/\c<=57 then(c:Int)-48 else if 97<=c/\c<=102 then(c:Int)-87 else -1
def MG(c:Nat)(hc:c<256)(w:World):
 Calls Tryz.prog 49 #[.int .u8 c] w λe w'=>e= .returned (.int .i64 (dgM c))/\w=w':=by
 by_cases h1:48<=c
 ·by_cases h2:c<=57
  ·have HE:=S (show dgM c=(c:Int)-48 by unfold dgM;rw[if_pos ⟨h1,h2⟩]);have i1:(48:Int)<=(c:Int):=by omega
   have i2:(c:Int)<=57:=by omega
   go_enter func49,ntmps49;go_wp2;go_ret;exact⟨by rw[HE.1];rfl,rfl⟩
  ·have i1:(48:Int)<=(c:Int):=by omega
   have i2:¬(c:Int)<=57:=by omega
   by_cases h3:97<=c
   ·have i3:(97:Int)<=(c:Int):=by omega
    by_cases h4:c<=102
    ·have HE:=S (show dgM c=(c:Int)-97+10 by unfold dgM;rw[if_neg (by omega),if_pos ⟨h3,h4⟩];omega);have i4:(c:Int)<=102:=by omega
     go_enter func49,ntmps49;go_wp2;go_ret;exact⟨by rw[HE.1];rfl,rfl⟩
    ·have HE:=S (show dgM c= -1 by unfold dgM;rw[if_neg (by omega),if_neg (by omega)]);have i4:¬(c:Int)<=102:=by omega
     go_enter func49,ntmps49;go_wp2;go_ret;exact⟨by rw[HE.1];rfl,rfl⟩
   ·have i3:¬(97:Int)<=(c:Int):=by omega
    have HE:=S (show dgM c= -1 by unfold dgM;rw[if_neg (by omega),if_neg (by omega)]);go_enter func49,ntmps49;go_wp2;go_ret;exact⟨by rw[HE.1];rfl,rfl⟩
 ·have i1:¬(48:Int)<=(c:Int):=by omega
  have i3:¬(97:Int)<=(c:Int):=by omega
  have HE:=S (show dgM c= -1 by unfold dgM;rw[if_neg (by omega),if_neg (by omega)]);go_enter func49,ntmps49;go_wp2;go_ret;exact⟨by rw[HE.1];rfl,rfl⟩
end
def ZC{v:Un}(h1:u.name=v.name)(h2:u.row=v.row)(h3:u.code=v.code):u=v:=by
 obtain⟨_,_,_⟩:=u;obtain⟨_,_,_⟩:=v;simp at h1 h2 h3;rw[h1,h2,h3]
def UR{va vb:Value}{ok ok':Nat->Prop}(h:VU ok w va us)(k0:VU ok' w vb vs):
 Calls Tryz.prog 8 #[va,vb] w (ρ w (.bool (decide (us=vs)))):=by
 obtain⟨a,cap,rfl,hle,hmx,hat⟩:=h.open;obtain⟨b,capb,rfl,hleb,hmxb,hatb⟩:=k0.open;have hlm:us.length<=9223372036854775807:=by unfold maxLen at hmx;omega
 have hmm:vs.length<=9223372036854775807:=by unfold maxLen at hmxb;omega
 have HA:=S (X hat hatb);clear hat hatb hle hmx hleb hmxb h k0;by_cases hl:us.length=vs.length
 ·have HL:=S hl;have i0:((us.length:Int) !=(vs.length:Int))=false:=by simp;omega
  have i1:((us.length:Int)==(vs.length:Int))=true:=by simp;omega
  clear hl;go_enter func8,ntmps8;go_wp2_with fail;go_loopg [5,6,7,8,9] us.length (λg v5 v6 v7 v8 v9 wr=>∃k:Nat,k+g=us.length/\v5= .int .i64 k/\us.take k=vs.take k/\w.grownBy wr none)
  case atStart=>exact⟨0,by omega,rfl,rfl,Aa _ _⟩
  case round=>
   obtain⟨k,hk,rfl,ht,hG⟩:=hrel;cases gk with
   | zero=>
     have hkl:k=us.length:=by omega
     have hj1:decide (k<us.length)=false:=by simp;omega
     have HE:=S (X (J0 HL.1 (by rw[<-hkl];exact ht)) hG);clear ht hG;subst hkl;go_wp2;go_ret;exact⟨by rw[decide_eq_true HE.1.1];rfl,HE.1.2⟩
   | succ gk=>
     have hkl:k<us.length:=by omega
     have hkm:k<vs.length:=by have:=HL.1;omega
     have hj1:decide (k<us.length)=true:=by simp;omega
     obtain⟨u,hx⟩:∃x,us[k]? =some x:=⟨_,B4 hkl⟩;obtain⟨v,hy⟩:∃y,vs[k]? =some y:=⟨_,B4 hkm⟩;obtain⟨ga,oa,ra,rc,ca,cc,rfl,_,la,a0,a1,a2,a3,a4⟩:=HA.1.1 k u hx;obtain⟨gb,ob,rb,rd,cb,cd,rfl,_,lb,b0,b1,b2,b3,b4⟩:=HA.1.2 k v hy;have d0:=Ae hG a0;have d1:=Ae hG a1;have d2:=Ae hG a2;have e0:=Ae hG b0;have e1:=Ae hG b1;have e2:=Ae hG b2;have hsz:=hG.size;have la2:ga<wr.heap.size:=by omega
     have lb2:gb<wr.heap.size:=by omega
     have HT:=S (X ht (X hG (X hx hy)));have HC:=S (X a3 (X a4 (X b3 b4)));clear a0 a1 a2 a3 a4 b0 b1 b2 b3 b4 ht hG hx hy;go_upto_region 6 with fail;go_cut [6,7] (λv6 v7 wx=>∃x y:Nat,v6= .pointer (some ⟨x,0,none⟩)/\v7= .pointer (some ⟨y,0,none⟩)/\Blk wx x [str u.name,.slice ra u.row.length rc,.slice ca u.code.length cc] 58/\Blk wx y [str v.name,.slice rb v.row.length rd,.slice cb v.code.length cd] 58/\wr.grownBy wx none)
     case first=>
      go_region_with(fail);all_goals
       go_wp2_with fail;go_meet;first
        |exact⟨_,_,rfl,rfl,((Blk.new wr [str u.name,.slice ra u.row.length rc,.slice ca u.code.length cc] 58).alloc _).drew,((Blk.new (wr.alloc (.cells [str u.name,.slice ra u.row.length rc,.slice ca u.code.length cc].toArray 58 (0,0))) [str v.name,.slice rb v.row.length rd,.slice cb v.code.length cd] 58).of_eq (show _=wr.heap.size+1 by simp) rfl).drew,Ad (Ac (Ac (Aa _ _) _) _)⟩
        |exact⟨_,_,rfl,rfl,((Blk.new (wr.alloc (.cells [str v.name,.slice rb v.row.length rd,.slice cb v.code.length cd].toArray 58 (0,0))) [str u.name,.slice ra u.row.length rc,.slice ca u.code.length cc] 58).of_eq (show _=wr.heap.size+1 by simp) rfl).drew,((Blk.new wr [str v.name,.slice rb v.row.length rd,.slice cb v.code.length cd] 58).alloc _).drew,Ad (Ac (Ac (Aa _ _) _) _)⟩
     case rest=>
      obtain⟨x,y,rfl,rfl,hbx,hby,hgx⟩:=hcut;have HG:=S (X hbx (X hby (Z HT.1.2.1 hgx)));have x0:=hbx.cell 0;have x1:=hbx.cell 1;have x2:=hbx.cell 2;have y0:=hby.cell 0;have y1:=hby.cell 1;have y2:=hby.cell 2;have HGX:=S hgx;clear hbx hby hgx;by_cases hn:u.name=v.name;rotate_left
      ·have j0:(u.name==v.name)=false:=by simpa using hn
       have j1:(u.name !=v.name)=true:=by simpa using hn
       have HF:=S (FD HT.1.2.2.1 HT.1.2.2.2 (λe=>hn (by rw[e])));clear hn;go_wp2;go_ret;exact⟨by rw[decide_eq_false HF.1];rfl,HG.1.2.2⟩
      have j0:(u.name==v.name)=true:=by simpa using hn
      have j1:(u.name !=v.name)=false:=by simpa using hn
      by_cases hr:u.row.length=v.row.length;rotate_left
      ·have j2:((u.row.length:Int)==(v.row.length:Int))=false:=by simp;omega
       have j3:((u.row.length:Int) !=(v.row.length:Int))=true:=by simp;omega
       have HF:=S (FD HT.1.2.2.1 HT.1.2.2.2 (λe=>hr (by rw[e])));clear hn hr;go_wp2;go_ret;exact⟨by rw[decide_eq_false HF.1];rfl,HG.1.2.2⟩
      have j2:((u.row.length:Int)==(v.row.length:Int))=true:=by simp;omega
      have j3:((u.row.length:Int) !=(v.row.length:Int))=false:=by simp;omega
      by_cases hc:u.code.length=v.code.length;rotate_left
      ·have j4:((u.code.length:Int)==(v.code.length:Int))=false:=by simp;omega
       have j5:((u.code.length:Int) !=(v.code.length:Int))=true:=by simp;omega
       have HF:=S (FD HT.1.2.2.1 HT.1.2.2.2 (λe=>hc (by rw[e])));clear hn hr hc;go_wp2;go_ret;exact⟨by rw[decide_eq_false HF.1];rfl,HG.1.2.2⟩
      have j4:((u.code.length:Int)==(v.code.length:Int))=true:=by simp;omega
      have j5:((u.code.length:Int) !=(v.code.length:Int))=false:=by simp;omega
      have m1:u.row.length<=9223372036854775807:=by obtain⟨_,_,e,h3,h4,_⟩:=HC.1.1;cases e;unfold maxLen at h4;omega
      have m2:u.code.length<=9223372036854775807:=by obtain⟨_,_,e,h3,h4,_⟩:=HC.1.2.1;cases e;unfold maxLen at h4;omega
      have HN:=S (X hn (X hr hc));clear hn hr hc;go_wp2_with fail;go_loopg [8] u.row.length (λg v8 w2=>∃j:Nat,j+g=u.row.length/\v8= .int .i64 j/\u.row.take j=v.row.take j/\wc.grownBy w2 none)
      case atStart=>exact⟨0,by omega,rfl,rfl,Aa _ _⟩
      case round=>
       obtain⟨j,hj,rfl,hjt,hg2⟩:=hrel;have z1:=(HG.1.1.gb hg2 (by simp)).cell 1;have z2:=(HG.1.1.gb hg2 (by simp)).cell 2;have t1:=(HG.1.2.1.gb hg2 (by simp)).cell 1;by_cases hjl:j<u.row.length
       ·have hjI:decide (j<u.row.length)=true:=by simpa using hjl
        have hjm:j<v.row.length:=by have:=HN.1.2.1;omega
        obtain⟨p,hp⟩:∃p,u.row[j]? =some p:=⟨_,B4 hjl⟩;obtain⟨q,hq⟩:∃q,v.row[j]? =some q:=⟨_,B4 hjm⟩;obtain⟨gp,op,rfl,_,_,cp⟩:=HC.1.1.int hp;obtain⟨gq,oq,rfl,_,_,cq⟩:=HC.1.2.2.1.int hq;have gw2:=Z HG.1.2.2 hg2;have dp:=Ae gw2 cp;have dq:=Ae gw2 cq;clear cp cq;by_cases hpq:p=q
        ·subst hpq;have l1:(p==p)=true:=by simp
         have l2:(p !=p)=false:=by simp
         have HE:=S (X (IX hjt hp hq) hg2);clear hjt hg2 hp hq gw2;go_wp2_with fail;go_quiet(fail);go_wp2;go_roundg (u.row.length-(j+1))
         case measure=>omega
         case rel=>exact⟨j+1,by omega,by go_num,HE.1.1,Aj HE.1.2 _⟩
        ·have l1:(p==q)=false:=by simpa using hpq
         have l2:(p !=q)=true:=by simpa using hpq
         have HF:=S (X (FD HT.1.2.2.1 HT.1.2.2.2 (λe=>FD hp hq hpq (by rw[e]))) gw2);clear hjt hg2 hp hq hpq gw2;go_wp2_with fail;go_quiet(fail);go_wp2;go_ret;exact⟨by rw[decide_eq_false HF.1.1];rfl,Aj HF.1.2 _⟩
       ·have hjI:decide (j<u.row.length)=false:=by simpa using hjl
        have hje:j=u.row.length:=by omega
        have HR:=S (X (J0 HN.1.2.1 (by rw[<-hje];exact hjt)) hg2);clear hjt hg2;subst hje;go_wp2_with fail;go_loopg [9] u.code.length (λg v9 w3=>∃i:Nat,i+g=u.code.length/\v9= .int .i64 i/\u.code.take i=v.code.take i/\wc.grownBy w3 none)
        case atStart=>exact⟨0,by omega,rfl,rfl,HR.1.2⟩
        case round=>
         obtain⟨i,hi,rfl,hit,hg3⟩:=hrel;have q2:=(HG.1.1.gb hg3 (by simp)).cell 2;have r2:=(HG.1.2.1.gb hg3 (by simp)).cell 2;by_cases hil:i<u.code.length
         ·have hiI:decide (i<u.code.length)=true:=by simpa using hil
          have him:i<v.code.length:=by have:=HN.1.2.2;omega
          obtain⟨p,hp⟩:∃p,u.code[i]? =some p:=⟨_,B4 hil⟩;obtain⟨q,hq⟩:∃q,v.code[i]? =some q:=⟨_,B4 him⟩;obtain⟨gp,op,rfl,_,_,p0,p1,p2,p3⟩:=HC.1.2.1.cd hp;obtain⟨gq,oq,rfl,_,_,s0,s1,s2,s3⟩:=HC.1.2.2.2.cd hq;have gw3:=Z HG.1.2.2 hg3;have a0:=Ae gw3 p0;have a1:=Ae gw3 p1;have a2:=Ae gw3 p2;have a3:=Ae gw3 p3;have b0:=Ae gw3 s0;have b1:=Ae gw3 s1;have b2:=Ae gw3 s2;have b3:=Ae gw3 s3;clear p0 p1 p2 p3 s0 s1 s2 s3;obtain⟨f0,f1,f2,f3⟩:=p;obtain⟨h0,h1,h2,h3⟩:=q;by_cases hpq:(⟨f0,f1,f2,f3⟩:Cd)=⟨h0,h1,h2,h3⟩
          ·cases hpq;have HE:=S (X (IX hit hp hq) hg3);clear hit hg3 hp hq gw3;go_wp2_with fail;go_quiet(fail);go_wp2;go_roundg (u.code.length-(i+1))
           case measure=>omega
           case rel=>exact⟨i+1,by omega,by go_num,HE.1.1,Aj HE.1.2 _⟩
          ·have HF:=S (X (FD HT.1.2.2.1 HT.1.2.2.2 (λe=>FD hp hq hpq (by rw[e]))) gw3);clear hit hg3 hp hq gw3;by_cases e0:f0=h0
           ·by_cases e1:f1=h1
            ·by_cases e2:f2=h2
             ·have e3:¬f3=h3:=λe=>hpq (by rw[e0,e1,e2,e]);have g3:(f3==h3)=false:=by simpa using e3
              subst e0 e1 e2;clear hpq;go_wp2_with fail;go_quiet(fail);go_wp2;go_ret;exact⟨by rw[decide_eq_false HF.1.1];rfl,Aj HF.1.2 _⟩
             ·have g2:(f2==h2)=false:=by simpa using e2
              subst e0 e1;clear hpq;go_wp2_with fail;go_quiet(fail);go_wp2;go_ret;exact⟨by rw[decide_eq_false HF.1.1];rfl,Aj HF.1.2 _⟩
            ·have g1:(f1==h1)=false:=by simpa using e1
             subst e0;clear hpq;go_wp2_with fail;go_quiet(fail);go_wp2;go_ret;exact⟨by rw[decide_eq_false HF.1.1];rfl,Aj HF.1.2 _⟩
           ·have g0:(f0==h0)=false:=by simpa using e0
            clear hpq;go_wp2_with fail;go_quiet(fail);go_wp2;go_ret;exact⟨by rw[decide_eq_false HF.1.1];rfl,Aj HF.1.2 _⟩
         ·have hiI:decide (i<u.code.length)=false:=by simpa using hil
          have hie:i=u.code.length:=by omega
          have HK:=S (X (ZC HN.1.1 HR.1.1 (J0 HN.1.2.2 (by rw[<-hie];exact hit))) (Z HG.1.2.2 hg3));clear hit hg3;go_wp2;go_roundg (us.length-(k+1))
          case measure=>omega
          case rel=>exact⟨k+1,by omega,by go_num,IX HT.1.1 HT.1.2.2.1 (by rw[HK.1.1];exact HT.1.2.2.2),HK.1.2⟩
 ·have HE:=S (show us≠vs by rintro rfl;exact hl rfl);have i0:((us.length:Int) !=(vs.length:Int))=true:=by simp;omega
  have i1:((us.length:Int)==(vs.length:Int))=false:=by simp;omega
  go_enter func8,ntmps8;go_wp2;go_ret;exact⟨by rw[decide_eq_false HE.1];rfl,Aa _ _⟩
end Go.Proofs.YtbjfaimkiclhgaaGreatDoor
