/-
  The program's reader of statements: scope. The program's reader of statements: use, goTo, replace. The program's reader of statements: do. A region that draws its order, by an invariant of what has be
-/
import Derived.Test.YtmcajbhljbbglaaGreatDoorSpF
import Derived.Test.YtmcajbhljbbglaaGreatDoorSp39
import Derived.Test.YtmcajbhljbbglaaGreatDoorSp36
import Derived.Test.YtmcajbhljbbglaaGreatDoorSp38
import Derived.Test.YtmcajbhljbbglaaGreatDoorSp37
import Derived.Test.YtmcajbhljbbglaaGreatDoorSp02
import Derived.Test.YtmcajbhljbbglaaGreatDoorSp27
import Derived.Test.YtmcajbhljbbglaaGreatDoorPlain
import Derived.Shelf.Spec.SlicesGrow
import Derived.Laws.AppendOwnNone
import Derived.Lib.MapLaws
import Derived.Test.YtmcajbhljbbglaaGreatDoorSp34
import Derived.Test.YtmcajbhljbbglaaGreatDoorSp35
import Derived.Test.YtmcajbhljbbglaaGreatDoorSp14
set_option linter.all false
set_option maxRecDepth 100000
set_option maxHeartbeats 8000000
namespace Go.Proofs.YtmcajbhljbbglaaGreatDoor
open Tryz
open Go.RowKit
theorem rW{s:Bs}(h:AQ s≠0):s=Fj∨s=BL∨s=Fg∨s=Cc:=by
 unfold AQ at h;by_cases h1:s=Fj
 ·exact .inl h1
 ·by_cases h2:s=BL
  ·exact .inr (.inl h2)
  ·by_cases h3:s=Fg
   ·exact .inr (.inr (.inl h3))
   ·by_cases h4:s=Cc
    ·exact .inr (.inr (.inr h4))
    ·rw[if_neg h1,if_neg h2,if_neg h3,if_neg h4]at h;exact absurd rfl h
section
variable {w:World}{b:Nat}{tv wo:Value}{l:List Tok}{i:Nat}
def ScQ(hn:Al l)(day:Bs→Int)(n:Nat)(b:Nat)(tv wo:Value)(w:World)(R:Res ScM)(g:Nat)(wr:World):Prop:=
 ∃(c:ScM)(j:Nat),(∃na fa wa nc fc wc,KC b w (w.heap.size+1) (w.heap.size+2) wr c na fa wa nc fc wc)∧Par wr b tv wo l wordsL j∧(Ba hn wordsL day n g c).f j=R
theorem jP(hn:Al l){day:Bs→Int}{n k:Nat}(hE:CE 56 b tv wo l wordsL (Aw l day n))(hok:∀i,At (Af l i))(h:Par w b tv wo l wordsL i)(ho:(Ba hn wordsL day n k B7).f i ≠ .out):
 Calls Tryz.prog 252 #[.pointer (some ⟨b,0,none⟩)] w (Post b tv wo l wordsL w (VSc w) ((Ba hn wordsL day n k B7).f i)):=by
 have hb:=h.lt;have HO:=Z ho;generalize hR:(Ba hn wordsL day n k B7).f i=R at*;have HQ0:=Z hR;have HE:=Z hE;have HTk:=Z hok;have HH:=Z h;have hmm:=Mq;have hup:=OQ;have hfn:=OA;have hfc:=Ob;clear hE hok ho h hR;go_enter func252,ntmps252;go_wp2_with fail;clear hmm hup hfn hfc;go_loopg [] k (fun g wr=>ScQ hn day n b tv wo w R g wr)
 case atStart=>
  have iE{P}(h:P:=by refine⟨B7,i,⟨none,none,none,0,0,0,?_⟩,HH.out.gbN g3,HQ0.out⟩;exact SO):=Aa h;exact ZB
 case round=>
  obtain⟨c,j,⟨na,fa,wa,nc,fc,wc,hK⟩,hp1,hq⟩:=hrel;have HK:=Z hK;have hp:=hp1;have HQ:=Z hq;clear hK HH hp1 hq HQ0;cases gk with
  |zero=>exact absurd HQ.out.symm HO.out
  |succ k=>
  have e0:=HQ.out;unfold Ba at e0;rw[Rd.condW_f]at e0;simp only[Bool.false_eq_true,if_false]at e0;rw[Rd.here_f]at e0;replace HQ:=Z e0;clear e0;have HI:=Z (fun h=>Co (l:=l) (W:=wordsL) (i:=j) h);have HA:=Z (CI hp);go_wp2_with fail;refine HA.out.mono ?_;rintro e w1 ⟨rfl,g1⟩;replace HK:=Z (HK.out.gbN g1);replace hp:=hp.gbN g1;clear g1 HA;go_wp2_with fail;refine(I8 hp HTk.out j).mono ?_;rintro e w2 ⟨rfl,g2⟩;replace HK:=Z (HK.out.gbN g2);replace hp:=hp.gbN g2;clear g2;generalize Av l wordsL j=s at*;have hlk:=Uz HK.out.map s;have hkl:=HK.out.lt;by_cases h1:AQ s≠0∧c.kind=0
  ·have hi:=HI.out (VY h1.1);replace HQ:=HQr HQ (by rw[if_pos h1,Rd.skip_f]);have c0:w2.cell? ⟨w.heap.size+1,0,none⟩=some (.int .i64 0):=by have:=HK.out.blk.cell' 0 rfl;rw[h1.2]at this;exact this
   have f0:=HK.out.blk.frozen 0;have hwL:=HK.out.wL;have RE{P}(h:P:=by
   rcases rW h1.1 with rfl|rfl|rfl|rfl
   ·rw[show AQ Fj=1 from by decide]at hlk;have hlk:(Instr.lookup 181 (.map (some (w.heap.size+2))) (str Fj) true).run Tryz.prog w2= .ok (.tuple #[.int .i64 1,.bool true]) w2:=hlk;have HF:=Z (Ac (HKI.out.putK (AQ Fj)) (HPI.out.set (L:=w.heap.size+1) Ab 0 (.int .i64 (AQ Fj))));replace HQ:=HQr HQ (by rw[if_neg (show ¬(Fj=BL∨Fj=Cc)by decide)]);exact Sy
   ·rw[show AQ BL=2 from by decide]at hlk;have hlk:(Instr.lookup 181 (.map (some (w.heap.size+2))) (str BL) true).run Tryz.prog w2= .ok (.tuple #[.int .i64 2,.bool true]) w2:=hlk;have HF:=Z (Ac (HKI.out.putK (AQ BL)) (HPI.out.set (L:=w.heap.size+1) Ab 0 (.int .i64 (AQ BL))));replace HQ:=HQr HQ (by rw[if_pos (show BL=BL∨BL=Cc from .inl rfl)]);replace HQ:=HQr HQ Fl;clear HPI HKI;go_upto_region 10 with fail;refine AL (fun W=>KC b w (w.heap.size+1) (w.heap.size+2) W {c with kind:=AQ BL} na fa wa nc fc wc∧Par W b tv wo l wordsL (j+1)) ⟨HF.out.1,HF.out.2⟩ ?_;exact XW
   ·rw[show AQ Fg=3 from by decide]at hlk;have hlk:(Instr.lookup 181 (.map (some (w.heap.size+2))) (str Fg) true).run Tryz.prog w2= .ok (.tuple #[.int .i64 3,.bool true]) w2:=hlk;have HF:=Z (Ac (HKI.out.putK (AQ Fg)) (HPI.out.set (L:=w.heap.size+1) Ab 0 (.int .i64 (AQ Fg))));replace HQ:=HQr HQ (by rw[if_neg (show ¬(Fg=BL∨Fg=Cc)by decide)]);exact Sy
   ·rw[show AQ Cc=4 from by decide]at hlk;have hlk:(Instr.lookup 181 (.map (some (w.heap.size+2))) (str Cc) true).run Tryz.prog w2= .ok (.tuple #[.int .i64 4,.bool true]) w2:=hlk;have HF:=Z (Ac (HKI.out.putK (AQ Cc)) (HPI.out.set (L:=w.heap.size+1) Ab 0 (.int .i64 (AQ Cc))));replace HQ:=HQr HQ (by rw[if_pos (show Cc=BL∨Cc=Cc from .inr rfl)]);replace HQ:=HQr HQ Fl;clear HPI HKI;go_upto_region 10 with fail;refine AL (fun W=>KC b w (w.heap.size+1) (w.heap.size+2) W {c with kind:=AQ Cc} na fa wa nc fc wc∧Par W b tv wo l wordsL (j+1)) ⟨HF.out.1,HF.out.2⟩ ?_;exact XW):=Aa h
   exact QE
  ·replace HQ:=HQr HQ (by rw[if_neg h1]);by_cases h2:s=BH∧c.f.len=0
   ·obtain⟨rfl,hf0⟩:=h2;have hi:=HI.out Ad;replace HQ:=HQr HQ (by rw[if_pos (show BH=BH∧c.f.len=0 from⟨rfl,hf0⟩)]);replace HQ:=HQr HQ IW;replace HQ:=HQr HQ Fl;have hlk:(Instr.lookup 181 (.map (some (w.heap.size+2))) (str BH) true).run Tryz.prog w2= .ok (.tuple #[.int .i64 0,.bool false]) w2:=hlk;have c2:w2.cell? ⟨w.heap.size+1,2,none⟩=some (.slice fa 0 fc):=XI;have RE{P}(h:P:=by go_upto_region 13 with fail;have bW{P}(h:P:=by clear hK hp3 HKI HPI c1 f1 c2 hlk;have eP{P}(h:P:=by have d4:=hK4.blk.cell' 2 rfl;have f4:=hK4.blk.frozen 2;have Oa{P}(h:P:=by have hK5:=hK4.layF (rp.mono hfr) (rl.mono hfr);have hp5:=(h4.set (L:=w.heap.size+1) Ab 2 (.slice (some ⟨w4.heap.size,0,none⟩) 1 1)).alloc (.cells (hdC x.h (.slice pa x.h.p.length pc) (.slice la x.kids.len lc)).toArray 29 (0,0));exact YF):=Aa h;exact N3):=Aa h;exact Yr):=Aa h;exact Sx):=Aa h;exact QE
   ·replace HQ:=HQr HQ (by rw[if_neg h2]);by_cases h3:s=CC∧c.w.len=0
    ·obtain⟨rfl,hf0⟩:=h3;have hi:=HI.out Ad;replace HQ:=HQr HQ (by rw[if_pos (show CC=CC∧c.w.len=0 from⟨rfl,hf0⟩)]);replace HQ:=HQr HQ IW;replace HQ:=HQr HQ Fl;have hlk:(Instr.lookup 181 (.map (some (w.heap.size+2))) (str CC) true).run Tryz.prog w2= .ok (.tuple #[.int .i64 0,.bool false]) w2:=hlk;have c3:w2.cell? ⟨w.heap.size+1,3,none⟩=some (.slice wa 0 wc):=by have:=HK.out.blk.cell' 3 rfl;rw[hf0]at this;exact this
     have RE{P}(h:P:=by go_upto_region 16 with fail;have bW{P}(h:P:=by clear hK hp3 HKI HPI c1 f1 c3 hlk;have eP{P}(h:P:=by have d4:=hK4.blk.cell' 3 rfl;have f4:=hK4.blk.frozen 3;have Oa{P}(h:P:=by have hK5:=hK4.layW (rp.mono hfr) (rl.mono hfr);have hp5:=(h4.set (L:=w.heap.size+1) Ab 3 (.slice (some ⟨w4.heap.size,0,none⟩) 1 1)).alloc (.cells (hdC x.h (.slice pa x.h.p.length pc) (.slice la x.kids.len lc)).toArray 29 (0,0));exact YF):=Aa h;exact N3):=Aa h;exact Yr):=Aa h;exact Sx):=Aa h;exact QE
    ·replace HQ:=HQr HQ (by rw[if_neg h3,Rd.pure_f]);by_cases h0:AQ s=0
     ·have hb1:(!(AQ s==0))=false:=by simpa using h0
      rw[hb1]at hlk;clear hb1;by_cases hs1:s=BH
      ·subst hs1;have hfl:((c.f.len:Int)==0)=false:=by have:c.f.len≠0:=fun e=>h2 ⟨rfl,e⟩;simp;omega
       exact N0
      ·have hs1:(s==[70,79,82])=false:=by simpa using hs1
       by_cases hs2:s=CC
       ·subst hs2;have hfl:((c.w.len:Int)==0)=false:=by have:c.w.len≠0:=fun e=>h3 ⟨rfl,e⟩;simp;omega
        exact N0
       ·have hs2:(s==[87,72,73,76,69])=false:=by simpa using hs2
        exact N0
     ·have hb1:(!(AQ s==0))=true:=by simpa using h0
      rw[hb1]at hlk;have hc0:(c.kind==0)=false:=by have:c.kind≠0:=fun e=>h1 ⟨h0,e⟩;simpa using this
      have hs1:(s==[70,79,82])=false:=XC;have hs2:(s==[87,72,73,76,69])=false:=XD;clear hb1;exact N0
end
theorem Up{b:Nat}{w:World}{tv wo:Value}{l:List Tok}{i:Nat}(h:Par w b tv wo l wordsL i)(hi:i<l.length):
 b<w.heap.size∧l.length≤4001∧w.cell? ⟨b,1,none⟩=some (.int .i64 i)∧w.frozen? ⟨b,1,none⟩=false∧
 Hid (Blk ((w.setCell ⟨b,1,none⟩ (.int .i64 ((i:Int)+1))).alloc (.cells (stC 0 (.slice none 0 0)).toArray 50 (0,0))) w.heap.size (stC 0 (.slice none 0 0)) 50∧w.grownBy ((w.setCell ⟨b,1,none⟩ (.int .i64 ((i:Int)+1))).alloc (.cells (stC 0 (.slice none 0 0)).toArray 50 (0,0))) (some b)∧Par ((w.setCell ⟨b,1,none⟩ (.int .i64 ((i:Int)+1))).alloc (.cells (stC 0 (.slice none 0 0)).toArray 50 (0,0))) b tv wo l wordsL (i+1)):=
 ⟨h.lt,h.few,h.c1,h.f1,Z ⟨(Blk.new (w.setCell ⟨b,1,none⟩ (.int .i64 ((i:Int)+1))) (stC 0 (.slice none 0 0)) 50).of_eq Ae rfl,Ar (As (Aj w (some b)) 1 (.int .i64 ((i:Int)+1))) _,(h.goI ((i:Int)+1) (i+1) Ab Ab).alloc _⟩⟩
theorem Db(wd:Bs){b:Nat}{w:World}{tv wo:Value}{l:List Tok}{i:Nat}(h:Par w b tv wo l wordsL i)(hi:i<l.length):
 b<w.heap.size∧l.length≤4001∧w.cell? ⟨b,1,none⟩=some (.int .i64 i)∧w.frozen? ⟨b,1,none⟩=false∧
 Hid (KA b w (w.heap.size+1) (((w.setCell ⟨b,1,none⟩ (.int .i64 ((i:Int)+1))).alloc (.cells (stC 0 (.slice none 0 0)).toArray 50 (0,0))).alloc (.cells #[.int .i64 13,str wd,str [],.slice none 0 0,.slice none 0 0,.slice none 0 0,.int .i64 0,.slice none 0 0,.slice none 0 0,.slice none 0 0] 50 (0,0))) 13 wd [] [] .nil .nil (.slice none 0 0) (.slice none 0 0) (.slice none 0 0)∧Par (((w.setCell ⟨b,1,none⟩ (.int .i64 ((i:Int)+1))).alloc (.cells (stC 0 (.slice none 0 0)).toArray 50 (0,0))).alloc (.cells #[.int .i64 13,str wd,str [],.slice none 0 0,.slice none 0 0,.slice none 0 0,.int .i64 0,.slice none 0 0,.slice none 0 0,.slice none 0 0] 50 (0,0))) b tv wo l wordsL (i+1)):=by
 obtain⟨h1,h2,h3,h4,h5⟩:=Up h hi;have hk:=KA.start h5.out.1 h5.out.2.1 h1 Ae 13 wd;rw[show((w.setCell ⟨b,1,none⟩ (.int .i64 ((i:Int)+1))).alloc (.cells (stC 0 (.slice none 0 0)).toArray 50 (0,0))).heap.size=w.heap.size+1 by simp]at hk;exact⟨h1,h2,h3,h4,Z ⟨hk,h5.out.2.2.alloc _⟩⟩
abbrev VIn(b:Nat)(w:World)(L:Nat):World→Value→Sd→Prop:=fun w' v x=>v= .tuple #[]∧∃pv xv nv fv wv,KS b w L w' x .nil pv xv (.slice none 0 0) nv fv wv
theorem Par.putC{w:World}{b:Nat}{tv wo:Value}{l:List Tok}{i:Nat}(h:Par w b tv wo l wordsL i){L:Nat}(hL:b<L)(v0 v1 v2 v3:Value):Par ((((w.setCell ⟨L,6,none⟩ v0).setCell ⟨L,7,none⟩ v1).setCell ⟨L,8,none⟩ v2).setCell ⟨L,9,none⟩ v3) b tv wo l wordsL i:=
 h.gb (As (As (As (As (Aj w (some L)) 6 v0) 7 v1) 8 v2) 9 v3) MM
def KZ{l:List Tok}(hn:Al l)(wd:Bs):Rd l Sd:=Rd.cond (Rd.atEnd l) (Rd.pure (sd0 13 wd)) ((Rd.name hn).bind fun p=>(Rd.ifw wordsL Hv ((Rd.name hn).bind fun q=>Rd.pure [p,q]) (Rd.pure [p])).bind fun ps=>Rd.pure {sd0 13 wd with p:=ps})
def KW{l:List Tok}(hn:Al l)(day:Bs→Int)(n:Nat)(wd:Bs):Rd l Sd:=
 (CX hn wordsL day n ([],.nil)).bind fun a=>(Rd.moreS [44] (CX hn wordsL day n) n a).bind fun a=>(Ba hn wordsL day n n B7).bind fun c=>Rd.pure (Cb {sd0 13 wd with p:=a.1,x:=a.2} c)
section
variable {w wr:World}{b:Nat}{tv wo:Value}{l:List Tok}{i:Nat}
theorem yA(hn:Al l){L:Nat}{wd:Bs}(hok:∀i,At (Af l i))(hl:AF l)(k:KA b w L wr 13 wd [] [] .nil .nil (.slice none 0 0) (.slice none 0 0) (.slice none 0 0))(h:Par wr b tv wo l wordsL i)(ho:(KZ hn wd).f i ≠ .out):
 Calls Tryz.prog 250 #[.pointer (some ⟨b,0,none⟩),.pointer (some ⟨L,0,none⟩)] wr (Post b tv wo l wordsL w (VIn b w L) ((KZ hn wd).f i)):=by
 have hb:=h.lt;have HO:=Z ho;generalize hR:(KZ hn wd).f i=R at*;unfold KZ at hR;rw[Rd.cond_f]at hR;have HQ:=Z hR;have HTk:=Z hok;have HSh:=Z hl;have HK:=Z k;have hp:=h;have HA:=Z (CI h);clear hok hl h ho hR k;cases hk:(Af l i).kind==5 with
 | true=>
   have hk5:(Af l i).kind=5:=BE;replace HQ:=HQr HQ (by rw[if_pos (show Rd.atEnd l i=true from hk)]);clear hk;go_enter func250,ntmps250;go_wp2_with fail;refine HA.out.mono ?_;rintro e w6 ⟨rfl,g6⟩;rw[AG,hk5];replace HK:=Z (HK.out.gbN g6).toKS;replace hp:=hp.gbN g6;clear g6 HA;exact Gv
 | false=>
   replace HQ:=HQr HQ XB;replace HQ:=HQr HQ IY;go_enter func250,ntmps250;go_wp2_with fail;refine HA.out.mono ?_;rintro e w6 ⟨rfl,g6⟩;rw[AG];replace HK:=Z (HK.out.gbN g6);replace hp:=hp.gbN g6;clear g6 HA;have Ck{P}(h:P:=by
   have NZ{P}(h:P:=by
   have AV{P}(h:P:=by
   have fN{P}(h:P:=by
   replace HQ:=HQr HQ BQ;replace HQ:=HQr HQ IX;cases hw:Av l wordsL j7==Hv with
   | false=>
     go_wp2_with fail;refine(Ev hp HTk.out Hv hw).mono ?_;rintro e w8 ⟨rfl,g⟩;have Ry{P}(h:P:=by clear hw d3 f3;replace HQ:=HQr HQ Bj;replace HQ:=HQr HQ CU;replace HQ:=HQr HQ Bj;replace HK:=Z HK.out.toKS;exact Gv):=Aa h;exact O3
   | true=>
     go_wp2_with fail;refine(Ey hp HTk.out Hv Ad hw).mono ?_;rintro e w8 ⟨rfl,hp9,g⟩;replace HK:=Z (HK.out.gb g);replace hp:=hp9;clear g hp9;replace HQ:=HQr HQ JL;clear hw d3 f3;replace HQ:=HQr HQ IY;have hkl:=HK.out.lt;have hx3:=HK.out.blk.cell' 3 rfl;cases hr6:AW l (j7+1)with
     |out=>exact absurd Bz HO.out
     | bad q6=>
       exact QI
     |ok q j9=>
     replace HQ:=HQr HQ Fk;replace HQ:=HQr HQ Bj;replace HQ:=HQr HQ CU;replace HQ:=HQr HQ Bj;go_wp2_with fail;have Ko{P}(h:P:=by
     have hroom:=(show([p]:List Bs).length≤5 by simp);have DD{P}(h:P:=by
     go_region_law(first
      | (refine step_append_lies _ Ao _ _ 26 Ao (w.heap.size+1) 9 i0 _ 1 16 underlying26 HI.out.1 HI.out.2.1 HI.out.2.2.1 HI.out.2.2.2 rfl Ad _ _ _ Ao HB.out.1.p ⟨w6.heap.size,0,none⟩ 1 1 [str q] Ao rfl (D0 _ _ _) Dg Ad AI Ab Ag _ rfl ?_;intro j cap w7 hown hgrow hat hlt;(have HK8:=Z (Ac (HB.out.1.addP' hown hgrow hat) (Par.app HB.out.2 hgrow (fun q hq=>(HB.out.1.belowP q hq).1) hbL 3 (.slice (some ⟨j,0,none⟩) (([p]:List Bs).length+1) cap))));(have hb7:=HB.out.1.blk.gb hgrow HB.out.1.neP);(have f7:=hb7.frozen 3);(have d7:=hb7.cell' 3 rfl);(have l7:=hb7.lt);clear hown hgrow hat hb7 HB)
      | (go_simp;go_at_call 98;refine(C4 (hp.drewN 1) HSh.out).mono ?_;rintro e w6 hq6;rw[hr6]at hq6;obtain⟨g6,v,rfl,rfl,h6⟩:=hq6;(have k6:=HK.out.gb (Ah (An (Aj _ _)) g6));(have l6:=k6.lt);(have d6:=k6.blk.cell' 3 rfl);(have s6:=g6.size);(have HB:=Z (Ac (k6.alloc (.cells #[str q] 9 (0,0))) (h6.alloc (.cells #[str q] 9 (0,0)))));clear k6 h6 g6))
     all_goals
      go_wp2_with fail;generalize hWW:World.setCell _ _ _=W10 at*;have HK:=Z HK8.out.1;have hp:=HK8.out.2;clear HK8 hx3 d6 d7 f7 l6 l7 s6;replace HK:=Z HK.out.toKS;go_end0;exact Post.ok HK.out.gr HQ.out.symm ⟨rfl,_,_,_,_,_,HK.out⟩ hp):=Aa h
     exact D9):=Aa h;exact Kf):=Aa h
   exact YV):=Aa h;exact AT):=Aa h;exact N1):=Aa h;exact Ci
theorem uF(hn:Al l){day:Bs→Int}{n L:Nat}{wd:Bs}(hE:CE 56 b tv wo l wordsL (Aw l day n))(hok:∀i,At (Af l i))(k:KS b w L wr (sd0 13 wd) .nil (.slice none 0 0) (.slice none 0 0) (.slice none 0 0) (.slice none 0 0) (.slice none 0 0) (.slice none 0 0))(h:Par wr b tv wo l wordsL i)(ho:(goP hn wordsL day n (sd0 13 wd)).f i ≠ .out):
 Calls Tryz.prog 251 #[.pointer (some ⟨b,0,none⟩),.pointer (some ⟨L,0,none⟩)] wr (Post b tv wo l wordsL w (VIn b w L) ((goP hn wordsL day n (sd0 13 wd)).f i)):=by
 have hb:=h.lt;have HO:=Z ho;generalize hR:(goP hn wordsL day n (sd0 13 wd)).f i=R at*;unfold goP at hR;rw[Rd.here_f,Rd.cond_f]at hR;have HQ:=Z hR;have HE:=Z hE;have HTk:=Z hok;have HK:=Z k;have hp:=h;have HA:=Z (CI h);have HI:=Z (fun h=>Co (l:=l) (W:=wordsL) (i:=i) h);clear hE hok h ho hR k;go_enter func251,ntmps251;have fU{P}(h:P:=by
 have HA:=Z (KO hp);by_cases hs:s=El∨s=Er
 ·have hi:=HI.out (by rcases hs with rfl|rfl<;>decide);cases hk:(Af l (i+1)).kind==5 with
  | true=>
    have hk5:(Af l (i+1)).kind=5:=BE;have hc:((s==El||s==Er)&&Rd.atEnd l (i+1))=true:=by
     rw[show Rd.atEnd l (i+1)=true from hk];rcases hs with rfl|rfl<;>decide
    replace HQ:=HQr HQ (by rw[if_pos hc]);clear hk hc;replace HQ:=HQr HQ IW;replace HQ:=HQr HQ Bj;rcases hs with rfl|rfl
    all_goals
     go_wp2_with fail;refine HA.out.mono ?_;rintro e w3 ⟨rfl,g3⟩;rw[AG,hk5];replace HK:=Z (HK.out.gbN g3);replace hp:=hp.gbN g3;have hkl:=HK.out.lt;have hwL:=HK.out.wL;have hbw:=HK.out.bw;clear g3 HA;have L6{P}(h:P:=by have hgI:=As (Aj w3 (some b)) 1 (.int .i64 ((i:Int)+1));have HPI:=Z (hp.goI ((i:Int)+1) (i+1) Ab Ab);have HKI:=Z (HK.out.gb hgI);clear hgI;have d2:=HK.out.blk.cell' 2 rfl;have f2:=HK.out.blk.frozen 2;have HF:=Z (fun s2=>Ac (HKI.out.putT s2) (HPI.out.set (L:=L) Ab 2 (str s2)));clear HKI HPI;go_wp2;go_end0;exact Post.ok (HF.out _).1.gr HQ.out.symm ⟨rfl,_,_,_,_,_,(HF.out _).1⟩ (HF.out _).2):=Aa h;exact Kt
  | false=>
    have hc:((s==El||s==Er)&&Rd.atEnd l (i+1))=false:=by
     rw[show Rd.atEnd l (i+1)=false from hk,Bool.and_false]
    replace HQ:=HQr HQ (by rw[if_neg (ne_true_of_eq_false hc)]);clear hc;replace HQ:=HQr HQ Fl;rcases hs with rfl|rfl
    all_goals
     go_wp2_with fail;refine HA.out.mono ?_;rintro e w3 ⟨rfl,g3⟩;rw[AG];replace HK:=Z (HK.out.gbN g3);replace hp:=hp.gbN g3;clear g3 HA;have Ck{P}(h:P:=by
     have cP{P}(h:P:=by
     have AV{P}(h:P:=by
     have NX{P}(h:P:=by
     have hbL:b<L:=Df;have hfr:∀q,Ap (w3).heap.size q→q<(w7).heap.size→but w L q:=fun q hq _=>by have h1:(w3).heap.size≤q:=hq;(try simp at h1);exact⟨by omega,by omega⟩
     have gL{P}(h:P:=by exact Gv):=Aa h;exact Zp):=Aa h;exact Nv):=Aa h;exact AT):=Aa h;exact SY):=Aa h;exact Ci
 ·have hs1:(s==[84,79,80])=false:=by have:s≠El:=fun e=>hs (.inl e);simpa using this
  have hs2:(s==[66,79,84,84,79,77])=false:=X6;have hc:((s==El||s==Er)&&Rd.atEnd l (i+1))=false:=by
   rw[show(s==El)=false from hs1,show(s==Er)=false from hs2];rfl
  replace HQ:=HQr HQ (by rw[if_neg (ne_true_of_eq_false hc)]);clear hc HA;replace HQ:=HQr HQ Fl;have Ck{P}(h:P:=by
  have cP{P}(h:P:=by
  have AV{P}(h:P:=by
  have NX{P}(h:P:=by
  have hbL:b<L:=Df;have hfr:∀q,Ap (w2).heap.size q→q<(w7).heap.size→but w L q:=fun q hq _=>by have h1:(w2).heap.size≤q:=hq;(try simp at h1);exact⟨by omega,by omega⟩
  have gL{P}(h:P:=by exact Gv):=Aa h;exact Zp):=Aa h;exact Nv):=Aa h;exact AT):=Aa h;exact SY):=Aa h;exact Ci):=Aa h
 exact Zd
end
theorem Rd.list_f0{l:List Tok}(hn:Al l){day:Bs→Int}{n i:Nat}:(J5 hn day n).f i=D1 l (Aw l day n) n i:=rfl
theorem UD(l:List Tok)(day:Bs→Int)(n:Nat):H9 (Aw l day n):=VX l day n
section
variable {w:World}{b:Nat}{tv wo:Value}{l:List Tok}{i:Nat}
theorem jM{w0 w1:World}{v:Value}{s:StB}{r:Res StB}(hb:b<w.heap.size)(hz:Blk w0 w.heap.size (stC 0 (.slice none 0 0)) 50)(g0:w.grownBy w0 (some b))(g:w0.grownBy w1 (some b))(hv:StV (Ap w0.heap.size) w1 v s)(hp:Par w1 b tv wo l wordsL i)(hr:r= .ok s i):
 ∃pa xa ba na fa wa,∃pc xc bc nc fc wc,v= .agg #[.int .i64 s.1.op,str s.1.s,str s.1.t,.slice pa s.1.p.length pc,.slice xa s.1.x.len xc,.slice ba s.2.len bc,.int .i64 s.1.kind,.slice na s.1.n.len nc,.slice fa s.1.f.len fc,.slice wa s.1.w.len wc]∧
  Blk w1 w.heap.size (stC 0 (.slice none 0 0)) 50∧
  Post b tv wo l wordsL w (VSt w) r (.returned v) (set10 w1 w.heap.size (.int .i64 s.1.op) (str s.1.s) (str s.1.t) (.slice pa s.1.p.length pc) (.slice xa s.1.x.len xc) (.slice ba s.2.len bc) (.int .i64 s.1.kind) (.slice na s.1.n.len nc) (.slice fa s.1.f.len fc) (.slice wa s.1.w.len wc))∧
  Blk (set10 w1 w.heap.size (.int .i64 s.1.op) (str s.1.s) (str s.1.t) (.slice pa s.1.p.length pc) (.slice xa s.1.x.len xc) (.slice ba s.2.len bc) (.int .i64 s.1.kind) (.slice na s.1.n.len nc) (.slice fa s.1.f.len fc) (.slice wa s.1.w.len wc)) w.heap.size
   (sdC s.1 (.slice pa s.1.p.length pc) (.slice xa s.1.x.len xc) (.slice ba s.2.len bc) (.slice na s.1.n.len nc) (.slice fa s.1.f.len fc) (.slice wa s.1.w.len wc)) 50:=by
 have fE{P}(h:P:=by refine⟨pa,xa,ba,na,fa,wa,pc,xc,bc,nc,fc,wc,rfl,hz1,Post.ok (A5 (Ah g0 g) g10 (.inr (Nat.le_refl _))) hr ?_ (hp.gb g10 A6),hz1.set10 _ _ _ _ _ _ _ _ _ _⟩;exact Zc):=Aa h;exact YE
theorem Ab9{block:Rd l Bl}(hn:Al l){day:Bs→Int}{n:Nat}(hnn:n≤100000)(hB:CQB b tv wo l block.f)(hE:CE 56 b tv wo l wordsL (Aw l day n))(hok:∀i,At (Af l i))(hl:AF l)(hg:Glob w)(hgb:0<b)(h:Par w b tv wo l wordsL i)(ho:(doP hn wordsL day n block).f i ≠ .out):
 Calls Tryz.prog 218 #[.pointer (some ⟨b,0,none⟩)] w (Post b tv wo l wordsL w (VSt w) ((doP hn wordsL day n block).f i)):=by
 have hb:=h.lt;have HO:=Z ho;generalize hR:(doP hn wordsL day n block).f i=R at*;unfold doP at hR;rw[Rd.ifw_f]at hR;have HQ:=Z hR;have HBk:=Z hB;have HE:=Z hE;have HTk:=Z hok;have HSh:=Z hl;have HGl:=Z (Ac hg hgb);have R4{P}(h:P:=by
 clear hB hE hok hl hg hgb h ho hR;go_enter func218,ntmps218;cases hw:Av l wordsL i==CA with
 | true=>
   go_wp2_with fail;refine(Ey hp HTk.out CA Ad hw).mono ?_;rintro e w1 ⟨rfl,hp9,g⟩;have DX{P}(h:P:=by
   replace hp:=hp9;clear g hp9;replace HQ:=HQr HQ JL;clear hw;have DC{P}(h:P:=by
   have N4{P}(h:P:=by
   have DX{P}(h:P:=by
   have Cj{P}(h:P:=by
   clear g;replace HQ:=HQr HQ Em;go_wp2_with fail;refine(CJ hp HTk.out CA Ad).mono ?_;intro e w3 hq;obtain⟨g,⟨q,hr,rfl⟩| ⟨u,i3,v,hr,rfl,rfl,hp9⟩⟩:=hq.split
   ·exact D6
   have DX{P}(h:P:=by have Cj{P}(h:P:=by clear g;have hl3:=HZ.out.1.lt;have HC:=Z (UM (more:=CA) (other:=K7) (last:=KI) hn hnn HBk.out HE.out HTk.out (DO HGl.out.1 HGl.out.2 HZ.out.2) HGl.out.2 Ad Ad Ad hp (fun e=>HO.out Cg));exact Gu):=Aa h;exact Ch):=Aa h;exact DW):=Aa h;exact Ch):=Aa h;exact DW):=Aa h;exact LJ):=Aa h;exact D8):=Aa h;exact DW
 | false=>
   go_wp2_with fail;refine(Ev hp HTk.out CA hw).mono ?_;rintro e w1 ⟨rfl,g⟩;have G7{P}(h:P:=by
   clear g;replace HQ:=HQr HQ ML;clear hw;replace HQ:=HQr HQ IX;cases hw:Av l wordsL i==CC with
   | true=>
     go_wp2_with fail;refine(Ey hp HTk.out CC Ad hw).mono ?_;rintro e w2 ⟨rfl,hp9,g⟩;have DX{P}(h:P:=by
     replace hp:=hp9;clear g hp9;replace HQ:=HQr HQ JL;clear hw;replace HQ:=HQr HQ BQ;have hl2:=HZ.out.1.lt;have hs2:=HZ.out.2.size;have HK:=Z (KA.start (o:=4) HZ.out.1 HZ.out.2 hb Ab []);have hp3:=hp.alloc (.cells #[.int .i64 4,str [],str [],.slice none 0 0,.slice none 0 0,.slice none 0 0,.int .i64 0,.slice none 0 0,.slice none 0 0,.slice none 0 0] 50 (0,0));replace hp:=hp3;clear hp3 HZ;have dM{P}(h:P:=by
     intro e w3 hq;obtain⟨g,⟨q,hr,rfl⟩| ⟨a,i3,v,hr,rfl,⟨rfl,pv9,xv9,bv9,hK9⟩,hp9⟩⟩:=hq.split
     ·exact⟨rfl,Post.bad g DT⟩
     have Rn{P}(h:P:=by replace HQ:=HQr HQ Em;go_wp2_with fail;refine(CJ hp HTk.out M8 Ad).mono ?_;have R1{P}(h:P:=by have AV{P}(h:P:=by clear g;have DC{P}(h:P:=by have Iz{P}(h:P:=by have AV{P}(h:P:=by clear g;replace HQ:=HQr HQ Bj;replace HK:=Z HK.out.toKS;exact Ke):=Aa h;exact AT):=Aa h;exact Ir):=Aa h;exact D8):=Aa h;exact AT):=Aa h;exact O7):=Aa h;exact Ol):=Aa h;exact TC):=Aa h;exact DW
   | false=>
     go_wp2_with fail;refine(Ev hp HTk.out CC hw).mono ?_;rintro e w2 ⟨rfl,g⟩;have G7{P}(h:P:=by
     clear g;replace HQ:=HQr HQ ML;clear hw;replace HQ:=HQr HQ IY;go_wp2_with fail;refine(C4 hp HSh.out).mono ?_;intro e w3 hq;obtain⟨g,⟨q,hr,rfl⟩| ⟨s,i3,v,hr,rfl,rfl,hp9⟩⟩:=hq.split
     ·exact D6
     have DX{P}(h:P:=by
     have Cj{P}(h:P:=by
     have hs3:=g.size;have hl3:=HZ.out.1.lt;have HK:=Z (KA.start (o:=9) HZ.out.1 HZ.out.2 hb Ab s).toKS;have hp3:=hp.alloc (.cells #[.int .i64 9,str s,str [],.slice none 0 0,.slice none 0 0,.slice none 0 0,.int .i64 0,.slice none 0 0,.slice none 0 0,.slice none 0 0] 50 (0,0));replace hp:=hp3;clear g hp3 HZ;have N6{P}(h:P:=by
     cases hw:Av l wordsL i3==Gn with
     | false=>
       go_wp2_with fail;refine(Ev hp HTk.out Gn hw).mono ?_;rintro e w4 ⟨rfl,g⟩;have LA{P}(h:P:=by have DC{P}(h:P:=by exact Oy):=Aa h;exact D8):=Aa h;exact Lr
     | true=>
       go_wp2_with fail;refine(Ey hp HTk.out Gn Ad hw).mono ?_;rintro e w4 ⟨rfl,hp9,g⟩;have LD{P}(h:P:=by have hkl:=HK.out.lt;replace HQ:=HQr HQ (by rw[Rd.list_f0]);have jE{P}(h:P:=by have AV{P}(h:P:=by have hkl5:=HK.out.lt;have hwL:=HK.out.wL;have hbw:=HK.out.bw;have fM{P}(h:P:=by have DC{P}(h:P:=by have Sb{P}(h:P:=by exact aV):=Aa h;exact Rk):=Aa h;exact D8):=Aa h;exact YS):=Aa h;exact AT):=Aa h;exact aR):=Aa h;exact Lu):=Aa h
     exact LR):=Aa h;exact Ch):=Aa h;exact DW):=Aa h;exact Gx):=Aa h
   exact Gx):=Aa h
 exact Qy
end
section
variable {P:Program}{md:Region.Mode}{ops:Array Oper}{Q:Exit→Act→World→Prop}
def F5(ops:Array Oper)(listed:Array Bool):List Nat:=(List.range ops.size).filter fun i=>!listed.getD i true
theorem n6{listed:Array Bool}{i:Nat}(hs:listed.size=ops.size)(hi:i∈F5 ops listed):(F5 ops (listed.setIfInBounds i true)).length<(F5 ops listed).length:=by
 have hlt:i<listed.size:=by
  have:=(List.mem_filter.1 hi).1;rw[List.mem_range]at this;omega
 have e:F5 ops (listed.setIfInBounds i true)=(F5 ops listed).filter fun j=>decide (j≠i):=by
  unfold F5;rw[List.filter_filter];apply List.filter_congr;intro j hj;rw[List.mem_range]at hj;by_cases h:j=i
  ·subst h;simp[Array.getD_eq_getD_getElem?,hlt]
  ·have h':¬i=j:=fun e=>h e.symm;simp[Array.getD_eq_getD_getElem?,Array.getElem?_setIfInBounds,h,h']
 rw[e];exact List.length_filter_lt_length_iff_exists.2 ⟨i,hi,by simp⟩
theorem U5{listed:Array Bool}{i:Nat}(hi:i∈Region.ready md ops listed):i∈F5 ops listed:=by
 unfold Region.ready at hi;obtain⟨h1,h2⟩:=List.mem_filter.1 hi;exact List.mem_filter.2 ⟨h1,by simp only[Bool.and_eq_true]at h2;exact h2.1⟩
theorem wG{I:Array Bool→Act→World→Prop}
 (hstep:∀listed a w,listed.size=ops.size→I listed a w→∀i∈Region.ready md ops listed,wpOp P ops Q i (I (listed.setIfInBounds i true)) a w)
 (hend:∀listed a w,listed.size=ops.size→I listed a w→Region.ready md ops listed=[]→Q .normal a w):
 ∀fuel listed a w,listed.size=ops.size→(F5 ops listed).length≤fuel→I listed a w→wpAny P md ops Q fuel listed a w:=by
 intro fuel;induction fuel with
 | zero=>
   intro listed a w hs hf h;have hr:Region.ready md ops listed=[]:=by
    cases hc:Region.ready md ops listed with
    |nil=>rfl
    | cons i rs=>
      have hm:i∈F5 ops listed:=U5 (md:=md) (by rw[hc];exact List.mem_cons_self);have:=List.length_pos_of_mem hm;omega
   exact⟨hr,hend listed a w hs h hr⟩
 | succ fuel ih=>
   intro listed a w hs hf h;refine⟨fun hr=>hend listed a w hs h hr,fun i hi=>?_⟩;have hl:=n6 hs (U5 hi);exact wpOp_mono (fun a' w' h'=>ih _ a' w' Le Ab h') (hstep listed a w hs h i hi)
def Xm(md:Region.Mode)(o:Oper):List Nat:=(o.after.toList.filter (Region.binds md)).map (·.on)
theorem Vt{listed:Array Bool}{i:Nat}(hi:i∈Region.ready md ops listed):i<ops.size∧listed.getD i true=false∧∀o,ops[i]? =some o→∀d∈Xm md o,listed.getD d false=true:=by
 unfold Region.ready at hi;obtain⟨h1,h2⟩:=List.mem_filter.1 hi;rw[List.mem_range]at h1;simp only[Bool.and_eq_true,Bool.not_eq_true']at h2;refine⟨h1,h2.1,fun o ho d hd=>?_⟩;have h3:=h2.2;rw[ho]at h3;simp only[Option.map_some,Option.getD_some,Array.all_eq_true_iff_forall_mem]at h3;unfold Xm at hd;obtain⟨e,he,rfl⟩:=List.mem_map.1 hd;obtain⟨he,hb⟩:=List.mem_filter.1 he;have:=h3 e D3;rw[hb]at this;simpa using this
end
section
variable {b:Nat}{tv wv:Value}{l:List Tok}{wl:List Bs}
end
section
variable {b:Nat}{tv wv:Value}{l:List Tok}{wl:List Bs}
theorem Xb:(Tryz.prog.info? 50).map (fun i=>(i.zero,i.size,i.bytes))=some (some (.agg (stC 0 (.slice none 0 0)).toArray),10,192):=Bk
end
theorem RepT.monoE{w:World}{ok ok':Nat→Prop}(hk:∀k,ok k→k<w.heap.size→ok' k):∀{b:Bl}{k:Bool}{cs:List Value},RepT ok w b k cs→RepT ok' w b k cs:=by
 intro b
 induction b with
 |nil=>intro k cs h;exact h
 | st h b n ih1 ih2=>
   intro k cs hr;cases k with
   |true=>exact hr
   | false=>
     obtain⟨pa,xa,na,fa,wa,ba,pc,xc,nc,fc,wc,bc,kcs,rest,e,h1,h2,h3,h4⟩:=hr;exact⟨pa,xa,na,fa,wa,ba,pc,xc,nc,fc,wc,bc,kcs,rest,e,⟨h1.p.mono hk,h1.x.mono hk,h1.n.mono hk,h1.f.mono hk,h1.w.mono hk⟩,h2.mono hk,ih1 h3,ih2 h4⟩
 | bl b n ih1 ih2=>
   intro k cs hr;cases k with
   |false=>exact hr
   | true=>
     obtain⟨ba,bc,kcs,rest,e,h2,h3,h4⟩:=hr;exact⟨ba,bc,kcs,rest,e,h2.mono hk,ih1 h3,ih2 h4⟩
section
variable {b:Nat}{tv wv:Value}{l:List Tok}{wl:List Bs}
abbrev mainL:Bs:=[77,65,73,78]
def Xq(k:Nat)(w:World):Prop:=∃a n c,Blk w k [.slice a n c] 34
end
theorem yW(k:Nat)(v:Value)(w:World):(callFunc 66 (#[v]++#[.pointer (some ⟨k,0,none⟩)])).run Tryz.prog w= .ok (.enter 66 (#[v]++#[.pointer (some ⟨k,0,none⟩)])) w:=Bk
theorem zH(n:Nat)(h0:0<n)(hn:n≤1000000)(w:World):Calls Tryz.prog 185 #[.slice none 0 0,.int .i64 n] w fun e w'=>∃v,e= .returned v∧w'.ownsRow w.heap.size 29 7 v 0 []∧w.grownBy w' none:=by
 obtain⟨i0,hi,hz0,hz1,hz2⟩:=info_parts Kq;refine(Any8.slices_Grow_grow growExpr i0 _ hi hz0 (by rw[hz1];decide) none 0 0 n [] w (Nat.le_refl _) Ab (by rw[hz2];omega) Ab Ae (fun _=>rfl) Ae).mono ?_;rintro e w' ⟨rfl,rfl⟩;refine⟨_,rfl,?_,?_⟩
 ·refine⟨rfl,.inr ⟨w.heap.size,_,_,rfl,Nat.le_refl _,heap_alloc_new _ _,Nat.zero_le _,?_,?_,?_⟩⟩
  ·exact grownCap_le_maxLen _ _ _ _ AI
  ·have hge:=grownCap_ge w (0+n) 0 (Tryz.growExpr_ren.t 25);generalize grownCap w (0+n) 0 (Tryz.growExpr_ren.t 25)=c at*;rw[Array.size_append,Array.size_append,size_zeroCells,size_zeroCells];have e7:(Value.agg #[Value.int .i64 0,str [],Value.int .i64 0,Value.int .i64 0,str [],Value.slice none 0 0,Value.slice none 0 0]).cells.size=7:=rfl;rw[e7];simp;omega
  ·simp
 ·exact Ar (An (Aj _ _)) _
theorem RepF.one{ok:Nat→Prop}{w:World}:∀{f:Fo}{cs:List Value},RepF ok w f cs→cs.length=f.len*7∧∀u∈cs,u.oneCell'=true:=by
 intro f;induction f with
 |nil=>rintro cs rfl;simp[Fo.len]
 | cons hd kids next ih1 ih2=>
   rintro cs ⟨pv,lv,kcs,rest,rfl,h1,h2,h3,h4⟩;obtain⟨pa,pc,rfl,_⟩:=h1;obtain⟨la,lc,rfl,_⟩:=h2;have:=ih2 h4;refine⟨by simp[hdC,Fo.len,this.1];omega,?_⟩;intro u hu;rcases List.mem_append.1 hu with h|h
   ·simp[hdC]at h;rcases h with rfl|rfl|rfl|rfl|rfl|rfl|rfl<;>rfl
   ·exact this.2 u h
structure Acc1(w:World)(n m:Int)(wr:World):Prop where
 res:Blk wr w.heap.size [.int .i64 0,.int .i64 0] 58
 acc:Blk wr (w.heap.size+1) [.int .i64 n,.int .i64 m] 58
 g:w.grownBy wr none
theorem Acc1.start(w:World):Acc1 w 0 0 ((w.alloc (.cells #[.int .i64 0,.int .i64 0] 58 (0,0))).alloc (.cells #[.int .i64 0,.int .i64 0] 58 (0,0))):=
 ⟨(Blk.new w [.int .i64 0,.int .i64 0] _).alloc _,(Blk.new _ [.int .i64 0,.int .i64 0] _).of_eq Ae rfl,Ar (World.grownBy_alloc w _ none) _⟩
def Nx{α:Type}(l:List Tok)(i:Nat):Res α→Prop
 | .ok _ j=>i≤j∧j≤l.length
 | .bad _=>True
 | .out=>False
def NxS{α:Type}(l:List Tok)(i:Nat):Res α→Prop
 | .ok _ j=>i<j∧j≤l.length
 | .bad _=>True
 | .out=>False
theorem NxS.weak{α:Type}{l:List Tok}{i:Nat}{r:Res α}(h:NxS l i r):Nx l i r:=by
 cases r with
 |ok a j=>exact⟨Nat.le_of_lt h.1,h.2⟩
 |bad k=>trivial
 |out=>exact h
def Ends{l:List Tok}{α:Type}(P:Rd l α)(n:Nat):Prop:=∀i,i≤l.length→l.length+2≤n+i→Nx l i (P.f i)
def EndsS{l:List Tok}{α:Type}(P:Rd l α)(n:Nat):Prop:=∀i,i≤l.length→l.length+2≤n+i→NxS l i (P.f i)
section
variable {l:List Tok}{α β:Type}{n m:Nat}
theorem EndsS.weak{P:Rd l α}(h:EndsS P n):Ends P n:=fun i h1 h2=>(h i h1 h2).weak
theorem Ends.le{P:Rd l α}(h:Ends P m)(hn:n≤m):Ends P n:=fun i h1 h2=>h i h1 Ab
theorem Ends.pure(a:α):Ends (Rd.pure a:Rd l α) n:=fun i h1 _=>⟨Nat.le_refl _,h1⟩
theorem Ends.bad(a:α):EndsS (Rd.bad a:Rd l α) n:=fun _ _ _=>trivial
theorem Ends.bind{P:Rd l α}{Q:α→Rd l β}(hP:Ends P n)(hQ:∀x,Ends (Q x) n):Ends (P.bind Q) n:=by
 intro i h1 h2;have h:=hP i h1 h2;show Nx l i ((P.f i).bind _);cases hr:P.f i with
 | ok a j=>
   rw[hr]at h;have hq:=hQ a j h.2 (by have:=h.1;omega);show Nx l i ((Q a).f j);revert hq;cases(Q a).f j with
   |ok b k=>exact fun hq=>⟨Nat.le_trans h.1 hq.1,hq.2⟩
   |bad k=>exact fun _=>trivial
   |out=>exact id
 |bad k=>trivial
 |out=>rw[hr]at h;exact h
theorem EndsS.bind{P:Rd l α}{Q:α→Rd l β}(hP:EndsS P n)(hQ:∀x,Ends (Q x) (n-1)):EndsS (P.bind Q) n:=by
 intro i h1 h2;have h:=hP i h1 h2;show NxS l i ((P.f i).bind _);cases hr:P.f i with
 | ok a j=>
   rw[hr]at h;have hq:=hQ a j h.2 (by have:=h.1;omega);show NxS l i ((Q a).f j);revert hq;cases(Q a).f j with
   |ok b k=>exact fun hq=>⟨Nat.lt_of_lt_of_le h.1 hq.1,hq.2⟩
   |bad k=>exact fun _=>trivial
   |out=>exact id
 |bad k=>trivial
 |out=>rw[hr]at h;exact h
theorem Fine.nx{i:Nat}{o:Prop}{r:Res α}(h:Fine o l.length i r)(ho:o):NxS l i r:=by
 cases r with
 |ok a j=>exact h
 |bad k=>trivial
 |out=>exact h ho
theorem K3(s:Bs):EndsS (Rd.want s:Rd l Unit) n:=fun i _ _=>(Jk (o:=True) s i).nx trivial
theorem ends_fin:EndsS (Rd.fin:Rd l Unit) n:=fun i _ _=>(WH (o:=True) i).nx trivial
theorem Ds(hn:Al l):EndsS (Rd.name hn:Rd l Bs) n:=fun i _ _=>(Ho (o:=True) i).nx trivial
theorem Hl{s:Bs}{p q:Rd l α}(hp:Ends p (n-1))(hq:Ends q n):Ends (Rd.ifs s p q) n:=by
 intro i h1 h2;show Nx l i (if Ak (Af l i) s then p.f (i+1)else q.f i);exact Z0
theorem uU{s:Bs}{p q:Rd l α}(hp:Ends p (n-1))(hq:EndsS q n):EndsS (Rd.ifs s p q) n:=by
 intro i h1 h2;show NxS l i (if Ak (Af l i) s then p.f (i+1)else q.f i);exact Z0
theorem Mg{c:Nat→Bool}{p q:Rd l α}(hp:Ends p n)(hq:Ends q n):Ends (Rd.cond c p q) n:=by
 intro i h1 h2;show Nx l i (if c i then p.f i else q.f i);split
 ·exact hp i h1 h2
 ·exact hq i h1 h2
theorem qA{c:Nat→Bool}{p q:Rd l α}(hp:EndsS p n)(hq:EndsS q n):EndsS (Rd.cond c p q) n:=by
 intro i h1 h2;show NxS l i (if c i then p.f i else q.f i);split
 ·exact hp i h1 h2
 ·exact hq i h1 h2
theorem qB{c:Nat→Bool}{p q:Rd l α}(hp:Ends p n)(hq:Ends q n):Ends (Rd.condW c p q) n:=Mg (c:=c) hp hq
theorem Aaq{W:List Bs}{i:Nat}(h:AR l W i≠[]):i<l.length:=by
 apply Co (W:=W);intro e;apply h;unfold AR;split
 ·rfl
 ·exact e
theorem E4{q:Rd l α}(hq:Ends q (n-1)){i:Nat}(hi:i<l.length)(h2:l.length+2≤n+i):NxS l i ((Rd.skip.bind fun _=>q).f i):=by
 have h:=hq (i+1) hi Ab;show NxS l i (q.f (i+1));revert h;exact TD
theorem Gf{W:List Bs}{w:Bs}(hw:w≠[]){p q:Rd l α}(hp:Ends p (n-1))(hq:Ends q n):Ends (Rd.ifw W w p q) n:=by
 intro i h1 h2;show Nx l i (if Av l W i==w then(Rd.skip.bind fun _=>p).f i else q.f i);split
 ·rename_i hs;simp only[beq_iff_eq]at hs;exact(E4 hp (Co (W:=W) (by rw[hs];exact hw)) h2).weak
 ·exact hq i h1 h2
theorem uV{W:List Bs}{w:Bs}(hw:w≠[]){p q:Rd l α}(hp:Ends p (n-1))(hq:EndsS q n):EndsS (Rd.ifw W w p q) n:=by
 intro i h1 h2;show NxS l i (if Av l W i==w then(Rd.skip.bind fun _=>p).f i else q.f i);split
 ·rename_i hs;simp only[beq_iff_eq]at hs;exact E4 hp (Co (W:=W) (by rw[hs];exact hw)) h2
 ·exact hq i h1 h2
theorem DJ{W:List Bs}{w:Bs}(hw:w≠[]):EndsS (Rd.must W w:Rd l Unit) n:=uV hw (Ends.pure _) (Ends.bad _)
theorem rN{s:Bs}{step:α→Rd l α}(h:∀a,Ends (step a) n):∀k a i,i≤l.length→l.length+1≤k+i→l.length+2≤n+i→Nx l i ((Rd.moreS s step k a).f i):=by
 intro k;induction k with
 |zero=>intro a i h1 h2;omega
 | succ k ih=>
   intro a i h1 h2 h3;show Nx l i (if Ak (Af l i) s then((step a).f (i+1)).bind (fun x j=>(Rd.moreS s step k x).f j)else .ok a i);split
   ·rename_i hs;have hl:=CG hs;have h0:=h a (i+1) hl Ab;cases hr:(step a).f (i+1)with
    | ok b j=>
      rw[hr]at h0;have hq:=ih b j h0.2 JO JO;rw[Res.bind_ok];revert hq;cases(Rd.moreS s step k b).f j with
      |ok b k=>exact fun h=>⟨by have:=h.1;have:=h0.1;omega,h.2⟩
      |bad k=>exact id
      |out=>exact id
    |bad k=>trivial
    |out=>rw[hr]at h0;exact h0
   ·exact⟨Nat.le_refl _,h1⟩
theorem rO{W:List Bs}{w:Bs}(hw:w≠[]){step:α→Rd l α}(h:∀a,Ends (step a) (n-1)):∀k a i,i≤l.length→l.length+1≤k+i→l.length+2≤n+i→Nx l i ((Rd.moreW W w step k a).f i):=by
 intro k;induction k with
 |zero=>intro a i h1 h2;omega
 | succ k ih=>
   intro a i h1 h2 h3;show Nx l i (if Av l W i==w then((step a).f (i+1)).bind (fun x j=>(Rd.moreW W w step k x).f j)else .ok a i);split
   ·rename_i hs;simp only[beq_iff_eq]at hs;have hl:=Co (l:=l) (W:=W) (i:=i) (by rw[hs];exact hw);have h0:=h a (i+1) hl Ab;cases hr:(step a).f (i+1)with
    | ok b j=>
      rw[hr]at h0;have hq:=ih b j h0.2 JO JO;rw[Res.bind_ok];revert hq;cases(Rd.moreW W w step k b).f j with
      |ok b k=>exact fun h=>⟨by have:=h.1;have:=h0.1;omega,h.2⟩
      |bad k=>exact id
      |out=>exact id
    |bad k=>trivial
    |out=>rw[hr]at h0;exact h0
   ·exact⟨Nat.le_refl _,h1⟩
end
end Go.Proofs.YtmcajbhljbbglaaGreatDoor
