/-
  The program's reader of statements: index. The program's reader of statements: command at every word. The program's reader of statements: command at every word (2). The program's reader of statements:
-/
import Derived.Test.YtmcajbhljbbglaaGreatDoorSpF
import Derived.Test.YtmcajbhljbbglaaGreatDoorSp41
import Derived.Test.YtmcajbhljbbglaaGreatDoorSp38
import Derived.Test.YtmcajbhljbbglaaGreatDoorSp43
import Derived.Test.YtmcajbhljbbglaaGreatDoorSp42
import Derived.Test.YtmcajbhljbbglaaGreatDoorSp39
import Derived.Test.YtmcajbhljbbglaaGreatDoorSp40
set_option linter.all false
set_option maxRecDepth 100000
set_option maxHeartbeats 8000000
namespace Go.Proofs.YtmcajbhljbbglaaGreatDoor
open Tryz
open Go.RowKit
def PK{l:List Tok}(hn:Al l)(wd p:Bs)(f:Fo):Rd l Sd:=
 (Rd.here wordsL).bind fun w=>(if w=Hq∨w=I3 then Rd.skip.bind fun _=>Rd.pure w else Rd.pure []).bind fun t=>
  (Rd.ifw wordsL Dt (Rd.pure [p,Dt]) (Rd.pure [p])).bind fun ps=>Rd.pure {sd0 13 wd with p:=ps,x:=f,t:=t}
section
variable {w wr:World}{b:Nat}{tv wo:Value}{l:List Tok}{i:Nat}
theorem wE{w:World}(h:Par w b tv wo l wordsL i)(hok:∀i,At (Af l i))(s:Bs)(hs:s≠[]):
 Calls Tryz.prog 96 #[.pointer (some ⟨b,0,none⟩),str s] w fun e w'=>e= .returned (.bool (Av l wordsL i==s))∧Par w' b tv wo l wordsL (if Av l wordsL i==s then i+1 else i)∧w.grownBy w' (some b):=by
 cases hw:Av l wordsL i==s with
 |true=>exact(Ey h hok s hs hw).mono fun e w' ⟨h1,h2,h3⟩=>⟨h1,h2,h3⟩
 |false=>exact(Ev h hok s hw).mono fun e w' ⟨h1,h2⟩=>⟨h1,h.gbN h2,AY h2⟩
theorem qO(hn:Al l){day:Bs→Int}{n L:Nat}{wd:Bs}(hE:CE 56 b tv wo l wordsL (Aw l day n))(hok:∀i,At (Af l i))(hl:AF l)(k:KA b w L wr 13 wd [] [] .nil .nil (.slice none 0 0) (.slice none 0 0) (.slice none 0 0))(h:Par wr b tv wo l wordsL i)(ho:(FC hn wordsL day n (sd0 13 wd)).f i ≠ .out):
 Calls Tryz.prog 254 #[.pointer (some ⟨b,0,none⟩),.pointer (some ⟨L,0,none⟩)] wr (Post b tv wo l wordsL w (VIn b w L) ((FC hn wordsL day n (sd0 13 wd)).f i)):=by
 have hb:=h.lt;have HO:=Z ho;generalize hR:(FC hn wordsL day n (sd0 13 wd)).f i=R at*;unfold FC at hR;rw[Rd.must_f]at hR;have HQ:=Z hR;have HE:=Z hE;have HTk:=Z hok;have HSh:=Z hl;have HK:=Z k;have hp:=h;clear hE hok hl h ho hR k;go_enter func254,ntmps254;go_wp2_with fail;refine(CJ hp HTk.out wON Ad).mono ?_;intro e w1 hq;obtain⟨g,⟨q,hr,rfl⟩| ⟨u,i1,v,hr,rfl,rfl,hp9⟩⟩:=hq.split
 ·exact BA
 have AV{P}(h:P:=by
 clear g;replace HQ:=HQr HQ Fl;have hkl:=HK.out.lt;have hwL:=HK.out.wL;have hbL:=HK.out.bL;have HFr:=Z (fun q hq=>HK.out.fresh q hq);go_wp2_with fail;refine(HE.out _ _ hp (fun e=>HO.out B8)).mono ?_;intro e w2 hq;obtain⟨g,⟨q,hr,rfl⟩| ⟨x,i2,v,hr,rfl,⟨pa,pc,la,lc,rfl,rp,rl⟩,hp9⟩⟩:=hq.split
 ·exact BA
 have AV{P}(h:P:=by
 have hkl2:=HK.out.lt;have d2:=HK.out.blk.cell' 4 rfl;have f2:=HK.out.blk.frozen 4;have hp3:=(hp.set (L:=L) hbL 4 (.slice (some ⟨w2.heap.size,0,none⟩) 1 1)).alloc (.cells (hdC x.h (.slice pa x.h.p.length pc) (.slice la x.kids.len lc)).toArray 29 (0,0));have hK3:=HK.out.layX rp rl (fun q hq=>HFr.out q hq);replace HK:=Z hK3;replace hp:=hp3;clear hK3 hp3 g rp rl HFr;replace HQ:=HQr HQ Em;go_wp2_with fail;refine(CJ hp HTk.out wTAG Ad).mono ?_;have R1{P}(h:P:=by
 have AV{P}(h:P:=by
 clear g d2 f2;replace HQ:=HQr HQ IY;have hkl:=HK.out.lt;go_wp2_with fail;refine(C4 hp HSh.out).mono ?_;intro e w5 hq;obtain⟨g,⟨q,hr,rfl⟩| ⟨p,i5,v,hr,rfl,rfl,hp9⟩⟩:=hq.split
 ·exact BA
 have AV{P}(h:P:=by
 clear g;have hkl5:=HK.out.lt;have d3:=HK.out.blk.cell' 3 rfl;have f3:=HK.out.blk.frozen 3;have hp6:=(hp.set (L:=L) hbL 3 (.slice (some ⟨w5.heap.size,0,none⟩) 1 1)).alloc (.cells #[str p] 9 (0,0));have hK6:=HK.out.layP p;have HW:=Z (wE hp6 HTk.out BH Ad);replace HK:=Z hK6;clear hK6 hp6 hp;go_wp2_with fail;refine HW.out.mono ?_;rintro e w7 ⟨rfl,hp9,g7⟩;have hp:=hp9;clear hp9;have cD{P}(h:P:=by
 replace HQ:=HQr HQ BQ;replace HQ:=HQr HQ IX;generalize hwr:(Av l wordsL i5==BH)=ok at*;clear hwr;go_upto_if 22 with fail
 go_cut []from 5 (fun wx=>∃xv' f j,KA b w L wx 13 wd [] [p] f .nil pv xv' (.slice none 0 0)∧Par wx b tv wo l wordsL j∧(PK hn wd p f).f j=R)
 case first=>
  cases ok with
  | false=>
    replace HQ:=HQr HQ (by rw[if_neg (ne_true_of_eq_false (show(false:Bool)=false from rfl))]);replace HQ:=HQr HQ Bj;replace HQ:=HQr HQ CU;go_wp2;go_meet
    case rel=>exact⟨_,_,_,HK.out,hp,HQ.out⟩
  | true=>
    replace HQ:=HQr HQ (by rw[if_pos (rfl:true=true)]);have hp1:Par w7 b tv wo l wordsL (i5+1):=hp;replace hp:=hp1;clear hp1;have e0:Res.bind (Res.bind (Aw l day n (i5+1)) _) _=R:=HQ.out;replace HQ:=Z e0;clear e0;have hkl:=HK.out.lt;have hx4:=HK.out.blk.cell' 4 rfl;cases hr6:Aw l day n (i5+1)with
    |out=>exact absurd Bz HO.out
    | bad q6=>
      go_upto_region 5 with fail;have EQ{P}(h:P:=by
      have Iu{P}(h:P:=by
      have RL{P}(h:P:=by
      have kA:=(HK.out.gbN (An (Aj w7 none))).alloc (.cells zeroE.toArray 29 (0,0));have Km{P}(h:P:=by
      go_region_law(first
       | (refine step_append_lies _ Ao _ _ 27 Ao ((w).heap.size+1) 29 i0 _ 7 104 underlying27 HI.out.1 HI.out.2.1 HI.out.2.2.1 HI.out.2.2.2 rfl Ad _ _ csA Ao HA1.out.2.1 ⟨(w7).heap.size,0,none⟩ 1 1 zeroE Ao rfl (Bu _ _ _) EK Ad AI Ab Eo _ rfl ?_;intro j cap w7 hown hgrow hat hlt;(have HP1:=Z (Ac (HA1.out.1.pend rfl HA1.out.2.1 HA1.out.2.2.1 hown hgrow hat) (HA1.out.2.2.2.gb hgrow (fun q hq=>(HA1.out.1.belowX q hq).1))));(have f7:=(HA1.out.1.blk.gb hgrow HA1.out.1.neX).frozen 4);(have d7:=(HA1.out.1.blk.gb hgrow HA1.out.1.neX).cell' 4 rfl);(have l7:=HP1.out.1.lt);(have s7:=hgrow.size);(have bj7:=HP1.out.1.bj);clear hown hgrow hat)
       | (go_simp;go_at_call 56;refine(HE.out _ _ HP1.out.2 Bp).mono ?_;rintro e w8 hq8;rw[hr6]at hq8;obtain⟨g8,rfl⟩:=hq8;refine Cd (P:=Tryz.prog) ⟨rfl,Post.bad (Ah HP1.out.1.gr g8) Bz⟩ ⟨#[],[]⟩ w8 ?_)
       | (go_simp;go_at_call 56;refine(HE.out _ _ (HP1.out.2.gb (As (Aj w7 (some L)) 4 (.slice (some ⟨j,0,none⟩) (((Fo.one x)).len+1) cap)) A6) Bp).mono ?_;rintro e w8 hq8;rw[hr6]at hq8;obtain⟨g8,rfl⟩:=hq8;refine Cd (P:=Tryz.prog) ⟨rfl,Post.bad (Ah (HP1.out.1.put4 (.slice (some ⟨j,0,none⟩) (((Fo.one x)).len+1) cap)).gr g8) Bz⟩ ⟨#[],[]⟩ w8 ?_)
       | (go_simp;go_at_call 56;refine(HE.out _ _ (hp.drewN 1) Bp).mono ?_;rintro e w8 hq8;rw[hr6]at hq8;obtain⟨g8,rfl⟩:=hq8;refine Cd (P:=Tryz.prog) ⟨rfl,Post.bad (Ah (An HK.out.gr) g8) Bz⟩ ⟨#[],[]⟩ w8 ?_)
       | (go_simp;go_at_call 56;refine(HE.out _ _ HA1.out.2.2.2 Bp).mono ?_;rintro e w8 hq8;rw[hr6]at hq8;obtain⟨g8,rfl⟩:=hq8;refine Cd (P:=Tryz.prog) ⟨rfl,Post.bad (Ah HA1.out.1.gr g8) Bz⟩ ⟨#[],[]⟩ w8 ?_))
      all_goals trivial):=Aa h;exact Kb):=Aa h;exact QO):=Aa h;exact Il):=Aa h;exact EN
    |ok y j6=>
    replace HQ:=HQr HQ Fk;go_upto_region 5 with fail;have EQ{P}(h:P:=by
    have hroom:=(show(Fo.one x).len≤5 by simp[Fo.one,Ex.fo,Fo.len]);have Iu{P}(h:P:=by
    have RL{P}(h:P:=by
    have HFr:=Z (fun q hq=>HK.out.fresh q hq);have kA:=(HK.out.gbN (An (Aj w7 none))).alloc (.cells zeroE.toArray 29 (0,0));have Km{P}(h:P:=by
    go_region_law(first
     | (refine step_append_lies _ Ao _ _ 27 Ao ((w).heap.size+1) 29 i0 _ 7 104 underlying27 HI.out.1 HI.out.2.1 HI.out.2.2.1 HI.out.2.2.2 rfl Ad _ _ csB Ao HA2.out.2.1 _ 1 1 zeroE Ao rfl HZ2.out EK Ad AI Ab Eo _ rfl ?_;intro j cap w7 hown hgrow hat hlt;(have HPF:=Z (Ac (HA2.out.1.pend rfl HA2.out.2.1 HA2.out.2.2.1 hown hgrow hat) (HA2.out.2.2.2.1.gb hgrow (fun q hq=>(HA2.out.1.belowX q hq).1))));(have HVF:=Z (Kz (f:=(Fo.one x)) (cap:=cap) HA2.out.2.2.2.2.1 HA2.out.2.2.2.2.2 (fun q hq _=>hq) HFr.out hgrow hat));(have f7:=(HA2.out.1.blk.gb hgrow HA2.out.1.neX).frozen 4);(have d7:=(HA2.out.1.blk.gb hgrow HA2.out.1.neX).cell' 4 rfl);(have l7:=HPF.out.1.lt);(have bj7:=HPF.out.1.bj);(have nj7:=HPF.out.1.neL);(have fe7:=fun i=>HPF.out.1.frozenE i);(obtain⟨u70,e70⟩:=HPF.out.1.cellE 0 Ad);(obtain⟨u71,e71⟩:=HPF.out.1.cellE 1 Ad);(obtain⟨u72,e72⟩:=HPF.out.1.cellE 2 Ad);(obtain⟨u73,e73⟩:=HPF.out.1.cellE 3 Ad);(obtain⟨u74,e74⟩:=HPF.out.1.cellE 4 Ad);(obtain⟨u75,e75⟩:=HPF.out.1.cellE 5 Ad);(obtain⟨u76,e76⟩:=HPF.out.1.cellE 6 Ad);(try simp only[Nat.add_zero]at e70);clear hown hgrow hat)
     | (refine step_append_lies _ Ao _ _ 27 Ao ((w).heap.size+1) 29 i0 _ 7 104 underlying27 HI.out.1 HI.out.2.1 HI.out.2.2.1 HI.out.2.2.2 rfl Ad _ _ csA Ao HA1.out.2.1 ⟨(w7).heap.size,0,none⟩ 1 1 zeroE Ao rfl (Bu _ _ _) EK Ad AI Ab Eo _ rfl ?_;intro j cap w7 hown hgrow hat hlt;(have HP1:=Z (Ac (HA1.out.1.pend rfl HA1.out.2.1 HA1.out.2.2.1 hown hgrow hat) (HA1.out.2.2.2.gb hgrow (fun q hq=>(HA1.out.1.belowX q hq).1))));(have f7:=(HA1.out.1.blk.gb hgrow HA1.out.1.neX).frozen 4);(have d7:=(HA1.out.1.blk.gb hgrow HA1.out.1.neX).cell' 4 rfl);(have l7:=HP1.out.1.lt);(have s7:=hgrow.size);(have bj7:=HP1.out.1.bj);clear hown hgrow hat)
     | (go_simp;go_at_call 56;refine(HE.out _ _ HP1.out.2 Bp).mono ?_;rintro e w8 hq6;rw[hr6]at hq6;obtain⟨g8,v,rfl,⟨pa6,pc6,la6,lc6,rfl,q1,q2⟩,h8⟩:=hq6;(have hKP:=HP1.out.1.gb g8);(have HPF:=Z (Ac hKP h8));(have HVF:=Z (Ac (q1.mono (fun q hq _=>HP1.out.1.fresh q hq)) (q2.mono (fun q hq _=>HP1.out.1.fresh q hq))));(have f8:=hKP.blk.frozen 4);(have d8:=hKP.blk.cell' 4 rfl);(have l8:=hKP.lt);(have bj8:=hKP.bj);(have nj8:=hKP.neL);(have fe8:=fun i=>HPF.out.1.frozenE i);(obtain⟨u70,e70⟩:=HPF.out.1.cellE 0 Ad);(obtain⟨u71,e71⟩:=HPF.out.1.cellE 1 Ad);(obtain⟨u72,e72⟩:=HPF.out.1.cellE 2 Ad);(obtain⟨u73,e73⟩:=HPF.out.1.cellE 3 Ad);(obtain⟨u74,e74⟩:=HPF.out.1.cellE 4 Ad);(obtain⟨u75,e75⟩:=HPF.out.1.cellE 5 Ad);(obtain⟨u76,e76⟩:=HPF.out.1.cellE 6 Ad);(try simp only[Nat.add_zero]at e70);clear hKP q1 q2 g8 h8)
     | (go_simp;go_at_call 56;refine(HE.out _ _ (HP1.out.2.gb (As (Aj w7 (some L)) 4 (.slice (some ⟨j,0,none⟩) (((Fo.one x)).len+1) cap)) A6) Bp).mono ?_;rintro e w8 hq6;rw[hr6]at hq6;obtain⟨g8,v,rfl,⟨pa6,pc6,la6,lc6,rfl,q1,q2⟩,h8⟩:=hq6;(have hKP:=(HP1.out.1.put4 (.slice (some ⟨j,0,none⟩) (((Fo.one x)).len+1) cap)).gb g8);(have HPF:=Z (Ac hKP h8));(have HVF:=Z (Ac (q1.mono (fun q hq _=>(HP1.out.1.put4 (.slice (some ⟨j,0,none⟩) (((Fo.one x)).len+1) cap)).fresh q hq)) (q2.mono (fun q hq _=>(HP1.out.1.put4 (.slice (some ⟨j,0,none⟩) (((Fo.one x)).len+1) cap)).fresh q hq))));(have bj8:=hKP.bj);(have nj8:=hKP.neL);(have l8:=hKP.lt);(have fe8:=fun i=>HPF.out.1.frozenE i);(obtain⟨u70,e70⟩:=HPF.out.1.cellE 0 Ad);(obtain⟨u71,e71⟩:=HPF.out.1.cellE 1 Ad);(obtain⟨u72,e72⟩:=HPF.out.1.cellE 2 Ad);(obtain⟨u73,e73⟩:=HPF.out.1.cellE 3 Ad);(obtain⟨u74,e74⟩:=HPF.out.1.cellE 4 Ad);(obtain⟨u75,e75⟩:=HPF.out.1.cellE 5 Ad);(obtain⟨u76,e76⟩:=HPF.out.1.cellE 6 Ad);(try simp only[Nat.add_zero]at e70);clear hKP q1 q2 g8 h8)
     | (go_simp;go_at_call 56;refine(HE.out _ _ (hp.drewN 1) Bp).mono ?_;rintro e w6 hq6;rw[hr6]at hq6;obtain⟨g6,v,rfl,⟨pa6,pc6,la6,lc6,rfl,q1,q2⟩,h6⟩:=hq6;(have k6:=HK.out.gb (Ah (An (Aj _ _)) g6));(have l6:=k6.lt);(have s6:=g6.size);(have d6:=k6.blk.cell' 4 rfl);(have k7:=k6.alloc (.cells zeroE.toArray 29 (0,0)));(obtain⟨csB,ho6,hr7⟩:=k7.x);(have gA:=World.grownBy_alloc w6 (.cells zeroE.toArray 29 (0,0)) none);(have HA2:=Z (Ac k7 (Ac ho6 (Ac hr7 (Ac (h6.alloc (.cells zeroE.toArray 29 (0,0))) (Ac (q1.gb gA Ae) (q2.gb gA Ae)))))));(have HZ2:=Z (Bu w6 zeroE 29));clear k6 k7 ho6 hr7 gA q1 q2 h6 g6)
     | (go_simp;go_at_call 56;refine(HE.out _ _ HA1.out.2.2.2 Bp).mono ?_;rintro e w6 hq6;rw[hr6]at hq6;obtain⟨g6,v,rfl,⟨pa6,pc6,la6,lc6,rfl,q1,q2⟩,h6⟩:=hq6;(have k6:=HA1.out.1.gb g6);(have l6:=k6.lt);(have s6:=g6.size);(have d6:=k6.blk.cell' 4 rfl);(obtain⟨csB,ho6,hr7⟩:=k6.x);(have HA2:=Z (Ac k6 (Ac ho6 (Ac hr7 (Ac h6 (Ac (q1.mono (ok':=Ap (w7).heap.size) (fun q hq _=>Nat.le_of_succ_le D4)) (q2.mono (ok':=Ap (w7).heap.size) (fun q hq _=>Nat.le_of_succ_le D4))))))));(have HZ2:=Z (show ∀i u,zeroE[i]? =some u→w6.cell? ((⟨(w7).heap.size,0,none⟩:Addr).add i)=some u from fun i u hu=>KB (((Blk.new (World.drew w7) zeroE 29).gb g6 Ag).cell' i hu)));clear k6 ho6 hr7 q1 q2 h6 g6))
    all_goals
     go_wp2_with fail;go_meet
     case rel=>
      show ∃xv' f j,KA b w L _ 13 wd [] [p] f .nil pv xv' (.slice none 0 0)∧Par _ b tv wo l wordsL j∧(PK hn wd p f).f j=R;have hE1:=HPF.out.1.endQ1 HPF.out.2 HVF.out.1 HVF.out.2;have hE2:=HPF.out.1.endQ2 HPF.out.2 HVF.out.1 HVF.out.2;simp only[Dd]at hE1 hE2;have hq9:=HQ.out;first
      |exact⟨_,(Fo.one x).snoc y,j6,by with_reducible exact hE1.1,by with_reducible exact hE1.2,hq9⟩
      |exact⟨_,(Fo.one x).snoc y,j6,by with_reducible exact hE2.1,by with_reducible exact hE2.2,hq9⟩):=Aa h
    exact Kb):=Aa h;exact QO):=Aa h;exact Il):=Aa h;exact EN
 case rest=>
  obtain⟨xv',f,j7,hK,hp1,hq⟩:=hcut;replace HK:=Z hK;replace hp:=hp1;have e0:=hq;unfold PK at e0;rw[Rd.here_f]at e0;replace HQ:=Z e0;have HI:=Z (fun h=>Co (l:=l) (W:=wordsL) (i:=j7) h);clear hK hp1 hq e0;have HA:=Z (CI hp);go_wp2_with fail;refine HA.out.mono ?_;rintro e w8 ⟨rfl,g8⟩;replace HK:=Z (HK.out.gb (AY g8));replace hp:=hp.gbN g8;clear g8 HA;go_wp2_with fail;refine(I8 hp HTk.out j7).mono ?_;rintro e w9 ⟨rfl,g9⟩;replace HK:=Z (HK.out.gb (AY g9));replace hp:=hp.gbN g9;clear g9;generalize Av l wordsL j7=s at*;have hkl:=HK.out.lt;have hus:(s=Hq∨s=I3)∨¬(s=Hq∨s=I3):=Classical.em _;rcases hus with hus|hus
  ·have hi:=HI.out (by rcases hus with rfl|rfl<;>decide);replace HQ:=HQr HQ (by rw[if_pos hus]);replace HQ:=HQr HQ BQ;replace HQ:=HQr HQ IW;replace HQ:=HQr HQ Bj;replace HQ:=HQr HQ CU;rcases hus with rfl|rfl
   all_goals
    have L6{P}(h:P:=by
    have hgI:=As (Aj w9 (some b)) 1 (.int .i64 ((j7:Int)+1));have HPI:=Z (hp.goI ((j7:Int)+1) (j7+1) Ab Ab);have HKI:=Z (HK.out.gb hgI);clear hgI;have d2:=HK.out.blk.cell' 2 rfl;have f2:=HK.out.blk.frozen 2;have HF:=Z (fun s2=>Ac (HKI.out.putT s2) (HPI.out.set (L:=L) hbL 2 (str s2)));clear HKI HPI;go_upto_region 10 with fail;refine AL (fun W=>(∃t,t=_∧KA b w L W 13 wd t [p] f .nil pv xv' (.slice none 0 0))∧Par W b tv wo l wordsL (j7+1)) ⟨⟨_,rfl,(HF.out _).1⟩,(HF.out _).2⟩ ?_;rintro W3 ⟨⟨t,rfl,hK⟩,hp3⟩;replace HK:=Z hK;replace hp:=hp3;clear hK hp3 HF d2 f2 c1 f1;have N6{P}(h:P:=by
    cases hw:Av l wordsL (j7+1)==Dt with
    | false=>
      exact bM
    | true=>
      exact XO):=Aa h
    exact LR):=Aa h;exact Kt
  ·have hs1:(s==[85,78,73,81,85,69])=false:=by have:s≠Hq:=fun e=>hus (.inl e);simpa using this
   have hs2:(s==[67,65,78,68,73,68,65,84,69])=false:=X3;replace HQ:=HQr HQ (by rw[if_neg hus]);replace HQ:=HQr HQ BQ;replace HQ:=HQr HQ Bj;replace HQ:=HQr HQ CU;have N6{P}(h:P:=by
   cases hw:Av l wordsL j7==Dt with
   | false=>
     exact bM
   | true=>
     exact XO):=Aa h
   exact LR):=Aa h
 exact SE):=Aa h;exact AT):=Aa h;exact AT):=Aa h;exact O7):=Aa h;exact AT):=Aa h;exact AT
end
theorem jN{b:Nat}{tv wo:Value}{l:List Tok}{w wr:World}{L i:Nat}{h:Sd}{pv xv bv nv fv wv:Value}{r:Res Sd}(k:KS b w L wr h .nil pv xv bv nv fv wv)(hp:Par wr b tv wo l wordsL i)(hr:r= .ok h i):
 Post b tv wo l wordsL w (VSd w) r (.returned (.agg (sdC h pv xv bv nv fv wv).toArray)) (set10 wr w.heap.size (.int .i64 h.op) (str h.s) (str h.t) pv xv bv (.int .i64 h.kind) nv fv wv):=by
 obtain⟨g1,g2,_,h4⟩:=k.out;have:=k.bw;exact Post.ok g1 hr h4 (hp.gb g2 A6)
def CS(b:Nat)(tv wo:Value)(l:List Tok)(hn:Al l)(day:Bs→Int)(n:Nat)(wd:Bs):Prop:=
 ∀(w:World)(i:Nat),Par w b tv wo l wordsL i→i<l.length→(BG hn wordsL day n wd).f (i+1) ≠ .out→Calls Tryz.prog 222 #[.pointer (some ⟨b,0,none⟩),str wd] w (Post b tv wo l wordsL w (VSd w) ((BG hn wordsL day n wd).f (i+1)))
section
variable {b:Nat}{tv wo:Value}{l:List Tok}{day:Bs→Int}{n:Nat}
theorem pH(hn:Al l)(hnn:n≤100000)(hE:CE 56 b tv wo l wordsL (Aw l day n))(hok:∀i,At (Af l i))(hl:AF l):CS b tv wo l hn day n F9:=by
 have Dl{P}(h:P:=by generalize hR:(BG hn wordsL day n F9).f (i+1)=R at*;replace hR:((Rd.name hn).bind fun p=>Rd.pure {sd0 13 F9 with p:=[p]}).f (i+1)=R:=hR;have HQ:=Z hR;obtain⟨hb,hfew,c1,f1,HB0⟩:=Db F9 h hi;have Dm{P}(h:P:=by refine AL (fun W=>KA b w (w.heap.size+1) W 13 F9 [] [] .nil .nil (.slice none 0 0) (.slice none 0 0) (.slice none 0 0)∧Par W b tv wo l wordsL (i+1)) HB0.out ?_;have EP{P}(h:P:=by replace HQ:=HQr HQ IY;replace HK:=Z HK.out.toKS;have Ck{P}(h:P:=by have NZ{P}(h:P:=by have AV{P}(h:P:=by have jJ{P}(h:P:=by replace HQ:=HQr HQ Bj;exact Iq):=Aa h;exact bI):=Aa h;exact AT):=Aa h;exact N1):=Aa h;exact Ci):=Aa h;exact EM):=Aa h;exact Dj):=Aa h;exact Di
theorem x3(hn:Al l)(hnn:n≤100000)(hE:CE 56 b tv wo l wordsL (Aw l day n))(hok:∀i,At (Af l i))(hl:AF l):CS b tv wo l hn day n Fh:=by
 have Dl{P}(h:P:=by generalize hR:(BG hn wordsL day n Fh).f (i+1)=R at*;replace hR:(KZ hn Fh).f (i+1)=R:=hR;have HQ:=Z hR;obtain⟨hb,hfew,c1,f1,HB0⟩:=Db Fh h hi;have Dm{P}(h:P:=by refine AL (fun W=>KA b w (w.heap.size+1) W 13 Fh [] [] .nil .nil (.slice none 0 0) (.slice none 0 0) (.slice none 0 0)∧Par W b tv wo l wordsL (i+1)) HB0.out ?_;have EP{P}(h:P:=by go_wp2_with fail;refine(yA hn HTk.out HSh.out HK.out hp (fun e=>HO.out Cg)).mono ?_;exact L4):=Aa h;exact EM):=Aa h;exact Dj):=Aa h;exact Di
theorem Ab8(hn:Al l)(hnn:n≤100000)(hE:CE 56 b tv wo l wordsL (Aw l day n))(hok:∀i,At (Af l i))(hl:AF l):CS b tv wo l hn day n wGO:=by
 have Dl{P}(h:P:=by generalize hR:(BG hn wordsL day n wGO).f (i+1)=R at*;replace hR:(goP hn wordsL day n (sd0 13 wGO)).f (i+1)=R:=hR;have HQ:=Z hR;obtain⟨hb,hfew,c1,f1,HB0⟩:=Db wGO h hi;have Dm{P}(h:P:=by refine AL (fun W=>KA b w (w.heap.size+1) W 13 wGO [] [] .nil .nil (.slice none 0 0) (.slice none 0 0) (.slice none 0 0)∧Par W b tv wo l wordsL (i+1)) HB0.out ?_;have EP{P}(h:P:=by go_wp2_with fail;refine(uF hn HE.out HTk.out HK.out.toKS hp (fun e=>HO.out Cg)).mono ?_;exact L4):=Aa h;exact EM):=Aa h;exact Dj):=Aa h;exact Di
theorem uE(hn:Al l)(hnn:n≤100000)(hE:CE 56 b tv wo l wordsL (Aw l day n))(hok:∀i,At (Af l i))(hl:AF l):CS b tv wo l hn day n Fa:=by
 have Dl{P}(h:P:=by generalize hR:(BG hn wordsL day n Fa).f (i+1)=R at*;replace hR:(EZ l (Aw l day n) (i+1)).bind (fun f k=>Res.ok {sd0 13 Fa with x:=f} k)=R:=hR;have HQ:=Z hR;obtain⟨hb,hfew,c1,f1,HB0⟩:=Db Fa h hi;have Dm{P}(h:P:=by refine AL (fun W=>KA b w (w.heap.size+1) W 13 Fa [] [] .nil .nil (.slice none 0 0) (.slice none 0 0) (.slice none 0 0)∧Par W b tv wo l wordsL (i+1)) HB0.out ?_;have EP{P}(h:P:=by replace HK:=Z HK.out.toKS;have Ck{P}(h:P:=by have Sa{P}(h:P:=by have AV{P}(h:P:=by have hkl5:=HK.out.lt;have hbw:=HK.out.bw;have hx4:=HK.out.blk.cell' 4 rfl;have hf4:=HK.out.blk.frozen 4;have hK6:=HK.out.putX (hF.mono (fun q hq _=>by have h1:(W0).heap.size≤q:=hq;(try simp at h1);exact⟨by omega,by omega⟩));have hp6:=hp.set (L:=(w.heap.size+1)) Ab 4 (.slice fa f.len fc);replace HK:=Z hK6;replace hp:=hp6;clear hK6 hp6 hF g;exact Iq):=Aa h;exact AT):=Aa h;exact Rj):=Aa h;exact Ci):=Aa h;exact EM):=Aa h;exact Dj):=Aa h;exact Di
theorem uD(hn:Al l)(hnn:n≤100000)(hE:CE 56 b tv wo l wordsL (Aw l day n))(hok:∀i,At (Af l i))(hl:AF l):CS b tv wo l hn day n EG:=by
 have Dl{P}(h:P:=by
 generalize hR:(BG hn wordsL day n EG).f (i+1)=R at*;replace hR:((B2 hn day n).bind fun x=>Rd.pure {sd0 13 EG with x:= .one x}).f (i+1)=R:=hR;have HQ:=Z hR;obtain⟨hb,hfew,c1,f1,HB0⟩:=Db EG h hi;have Dm{P}(h:P:=by
 refine AL (fun W=>KA b w (w.heap.size+1) W 13 EG [] [] .nil .nil (.slice none 0 0) (.slice none 0 0) (.slice none 0 0)∧Par W b tv wo l wordsL (i+1)) HB0.out ?_;have EP{P}(h:P:=by
 replace HQ:=HQr HQ Fl;replace HK:=Z HK.out.toKS;have Ck{P}(h:P:=by
 refine(HE.out _ _ hp (fun e=>HO.out B8)).mono ?_;intro e w5 hq;obtain⟨g,⟨q,hr,rfl⟩| ⟨x,j5,v,hr,rfl,⟨pa,pc,la,lc,rfl,rp,rl⟩,hp9⟩⟩:=hq.split
 ·exact BA
 have AV{P}(h:P:=by
 have NX{P}(h:P:=by
 have hbL:b<(w.heap.size+1):=Df;have hfr:∀q,Ap (W0).heap.size q→q<(w5).heap.size→but w (w.heap.size+1) q:=fun q hq _=>by have h1:(W0).heap.size≤q:=hq;(try simp at h1);exact⟨by omega,by omega⟩
 have hK4:=HK.out.layX (f:= .one x) (m:=1) JH Ad (VE.rep (rp.mono hfr) (rl.mono hfr));have hp3:=(hp.set (L:=(w.heap.size+1)) hbL 4 (.slice (some ⟨(w5).heap.size,0,none⟩) 1 1)).alloc (.cells (hdC (x).h (.slice pa (x).h.p.length pc) (.slice la (x).kids.len lc)).toArray 29 (0,0));replace HK:=Z hK4;replace hp:=hp3;clear g rp rl hK4 hp3 hfr;replace HQ:=HQr HQ Bj;exact Iq):=Aa h;exact Nv):=Aa h;exact AT):=Aa h;exact Ci):=Aa h;exact EM):=Aa h;exact Dj):=Aa h;exact Di
theorem k4(hn:Al l)(hnn:n≤100000)(hE:CE 56 b tv wo l wordsL (Aw l day n))(hok:∀i,At (Af l i))(hl:AF l):CS b tv wo l hn day n F3:=by
 have Dl{P}(h:P:=by generalize hR:(BG hn wordsL day n F3).f (i+1)=R at*;replace hR:Res.ok (sd0 13 F3) (i+1)=R:=hR;have HQ:=Z hR;obtain⟨hb,hfew,c1,f1,HB0⟩:=Db F3 h hi;have Dm{P}(h:P:=by refine AL (fun W=>KA b w (w.heap.size+1) W 13 F3 [] [] .nil .nil (.slice none 0 0) (.slice none 0 0) (.slice none 0 0)∧Par W b tv wo l wordsL (i+1)) HB0.out ?_;exact Ok):=Aa h;exact Dj):=Aa h;exact Di
theorem uC(hn:Al l)(hnn:n≤100000)(hE:CE 56 b tv wo l wordsL (Aw l day n))(hok:∀i,At (Af l i))(hl:AF l):CS b tv wo l hn day n FJ:=by
 have Dl{P}(h:P:=by generalize hR:(BG hn wordsL day n FJ).f (i+1)=R at*;replace hR:Res.ok (sd0 13 FJ) (i+1)=R:=hR;have HQ:=Z hR;obtain⟨hb,hfew,c1,f1,HB0⟩:=Db FJ h hi;have Dm{P}(h:P:=by refine AL (fun W=>KA b w (w.heap.size+1) W 13 FJ [] [] .nil .nil (.slice none 0 0) (.slice none 0 0) (.slice none 0 0)∧Par W b tv wo l wordsL (i+1)) HB0.out ?_;exact Ok):=Aa h;exact Dj):=Aa h;exact Di
theorem x4(hn:Al l)(hnn:n≤100000)(hE:CE 56 b tv wo l wordsL (Aw l day n))(hok:∀i,At (Af l i))(hl:AF l):CS b tv wo l hn day n FN:=by
 have Dl{P}(h:P:=by generalize hR:(BG hn wordsL day n FN).f (i+1)=R at*;replace hR:Res.ok (sd0 13 FN) (i+1)=R:=hR;have HQ:=Z hR;obtain⟨hb,hfew,c1,f1,HB0⟩:=Db FN h hi;have Dm{P}(h:P:=by refine AL (fun W=>KA b w (w.heap.size+1) W 13 FN [] [] .nil .nil (.slice none 0 0) (.slice none 0 0) (.slice none 0 0)∧Par W b tv wo l wordsL (i+1)) HB0.out ?_;exact Ok):=Aa h;exact Dj):=Aa h;exact Di
theorem pD(hn:Al l)(hnn:n≤100000)(hE:CE 56 b tv wo l wordsL (Aw l day n))(hok:∀i,At (Af l i))(hl:AF l):CS b tv wo l hn day n F8:=by
 have Dl{P}(h:P:=by generalize hR:(BG hn wordsL day n F8).f (i+1)=R at*;replace hR:((Rd.must wordsL KR).bind fun _=>Rd.pure (sd0 13 F8)).f (i+1)=R:=hR;have HQ:=Z hR;obtain⟨hb,hfew,c1,f1,HB0⟩:=Db F8 h hi;have Dm{P}(h:P:=by refine AL (fun W=>KA b w (w.heap.size+1) W 13 F8 [] [] .nil .nil (.slice none 0 0) (.slice none 0 0) (.slice none 0 0)∧Par W b tv wo l wordsL (i+1)) HB0.out ?_;have EP{P}(h:P:=by replace HQ:=HQr HQ Em;replace HK:=Z HK.out.toKS;go_wp2_with fail;refine(CJ hp HTk.out KR Ad).mono ?_;have Iz{P}(h:P:=by have AV{P}(h:P:=by clear g;replace HQ:=HQr HQ Bj;exact Iq):=Aa h;exact AT):=Aa h;exact Ir):=Aa h;exact EM):=Aa h;exact Dj):=Aa h;exact Di
end
section
variable {b:Nat}{tv wo:Value}{l:List Tok}{day:Bs→Int}{n:Nat}
theorem pF(hn:Al l)(hnn:n≤100000)(hE:CE 56 b tv wo l wordsL (Aw l day n))(hok:∀i,At (Af l i))(hl:AF l):CS b tv wo l hn day n Et:=by
 have Dl{P}(h:P:=by generalize hR:(BG hn wordsL day n Et).f (i+1)=R at*;replace hR:((Ba hn wordsL day n n B7).bind fun c=>Rd.pure (Cb (sd0 13 Et) c)).f (i+1)=R:=hR;have HQ:=Z hR;obtain⟨hb,hfew,c1,f1,HB0⟩:=Db Et h hi;have Dm{P}(h:P:=by refine AL (fun W=>KA b w (w.heap.size+1) W 13 Et [] [] .nil .nil (.slice none 0 0) (.slice none 0 0) (.slice none 0 0)∧Par W b tv wo l wordsL (i+1)) HB0.out ?_;exact Re):=Aa h;exact Dj):=Aa h;exact Di
theorem pE(hn:Al l)(hnn:n≤100000)(hE:CE 56 b tv wo l wordsL (Aw l day n))(hok:∀i,At (Af l i))(hl:AF l):CS b tv wo l hn day n Es:=by
 have Dl{P}(h:P:=by generalize hR:(BG hn wordsL day n Es).f (i+1)=R at*;replace hR:((Ba hn wordsL day n n B7).bind fun c=>Rd.pure (Cb (sd0 13 Es) c)).f (i+1)=R:=hR;have HQ:=Z hR;obtain⟨hb,hfew,c1,f1,HB0⟩:=Db Es h hi;have Dm{P}(h:P:=by refine AL (fun W=>KA b w (w.heap.size+1) W 13 Es [] [] .nil .nil (.slice none 0 0) (.slice none 0 0) (.slice none 0 0)∧Par W b tv wo l wordsL (i+1)) HB0.out ?_;exact Re):=Aa h;exact Dj):=Aa h;exact Di
theorem pG(hn:Al l)(hnn:n≤100000)(hE:CE 56 b tv wo l wordsL (Aw l day n))(hok:∀i,At (Af l i))(hl:AF l):CS b tv wo l hn day n Eu:=by
 have Dl{P}(h:P:=by generalize hR:(BG hn wordsL day n Eu).f (i+1)=R at*;replace hR:((Ba hn wordsL day n n B7).bind fun c=>Rd.pure (Cb (sd0 13 Eu) c)).f (i+1)=R:=hR;have HQ:=Z hR;obtain⟨hb,hfew,c1,f1,HB0⟩:=Db Eu h hi;have Dm{P}(h:P:=by refine AL (fun W=>KA b w (w.heap.size+1) W 13 Eu [] [] .nil .nil (.slice none 0 0) (.slice none 0 0) (.slice none 0 0)∧Par W b tv wo l wordsL (i+1)) HB0.out ?_;exact Re):=Aa h;exact Dj):=Aa h;exact Di
theorem lX(hn:Al l)(hnn:n≤100000)(hE:CE 56 b tv wo l wordsL (Aw l day n))(hok:∀i,At (Af l i))(hl:AF l):CS b tv wo l hn day n Ea:=by
 have Dl{P}(h:P:=by generalize hR:(BG hn wordsL day n Ea).f (i+1)=R at*;replace hR:(KW hn day n Ea).f (i+1)=R:=hR;have HQ:=Z hR;obtain⟨hb,hfew,c1,f1,HB0⟩:=Db Ea h hi;have Dm{P}(h:P:=by refine AL (fun W=>KA b w (w.heap.size+1) W 13 Ea [] [] .nil .nil (.slice none 0 0) (.slice none 0 0) (.slice none 0 0)∧Par W b tv wo l wordsL (i+1)) HB0.out ?_;have EP{P}(h:P:=by go_wp2_with fail;refine(l1 hn hnn HE.out HTk.out HSh.out HK.out hp (fun e=>HO.out Cg)).mono ?_;exact L4):=Aa h;exact EM):=Aa h;exact Dj):=Aa h;exact Di
theorem qL(hn:Al l)(hnn:n≤100000)(hE:CE 56 b tv wo l wordsL (Aw l day n))(hok:∀i,At (Af l i))(hl:AF l):CS b tv wo l hn day n FA:=by
 have Dl{P}(h:P:=by generalize hR:(BG hn wordsL day n FA).f (i+1)=R at*;replace hR:((Rd.must wordsL wTO).bind fun _=>(Rd.name hn).bind fun p=>(Ba hn wordsL day n n B7).bind fun c=>Rd.pure (Cb {sd0 13 FA with p:=[p]} c)).f (i+1)=R:=hR;have HQ:=Z hR;obtain⟨hb,hfew,c1,f1,HB0⟩:=Db FA h hi;have Dm{P}(h:P:=by refine AL (fun W=>KA b w (w.heap.size+1) W 13 FA [] [] .nil .nil (.slice none 0 0) (.slice none 0 0) (.slice none 0 0)∧Par W b tv wo l wordsL (i+1)) HB0.out ?_;have EP{P}(h:P:=by replace HQ:=HQr HQ Em;replace HK:=Z HK.out.toKS;go_wp2_with fail;refine(CJ hp HTk.out wTO Ad).mono ?_;have Iz{P}(h:P:=by have AV{P}(h:P:=by clear g;exact aU):=Aa h;exact AT):=Aa h;exact Ir):=Aa h;exact EM):=Aa h;exact Dj):=Aa h;exact Di
theorem x0(hn:Al l)(hnn:n≤100000)(hE:CE 56 b tv wo l wordsL (Aw l day n))(hok:∀i,At (Af l i))(hl:AF l):CS b tv wo l hn day n EH:=by
 have Dl{P}(h:P:=by
 generalize hR:(BG hn wordsL day n EH).f (i+1)=R at*;replace hR:((B2 hn day n).bind fun x=>(Rd.must wordsL wTO).bind fun _=>(Rd.name hn).bind fun p=>(Ba hn wordsL day n n B7).bind fun c=>Rd.pure (Cb {sd0 13 EH with p:=[p],x:= .one x} c)).f (i+1)=R:=hR;have HQ:=Z hR;obtain⟨hb,hfew,c1,f1,HB0⟩:=Db EH h hi;have Dm{P}(h:P:=by
 refine AL (fun W=>KA b w (w.heap.size+1) W 13 EH [] [] .nil .nil (.slice none 0 0) (.slice none 0 0) (.slice none 0 0)∧Par W b tv wo l wordsL (i+1)) HB0.out ?_;have EP{P}(h:P:=by
 replace HQ:=HQr HQ Fl;replace HK:=Z HK.out.toKS;have Ck{P}(h:P:=by
 refine(HE.out _ _ hp (fun e=>HO.out B8)).mono ?_;intro e w4 hq;obtain⟨g,⟨q,hr,rfl⟩| ⟨x,j4,v,hr,rfl,⟨pa,pc,la,lc,rfl,rp,rl⟩,hp9⟩⟩:=hq.split
 ·exact BA
 have AV{P}(h:P:=by
 have NX{P}(h:P:=by
 have hbL:b<(w.heap.size+1):=Df;have hfr:∀q,Ap (W0).heap.size q→q<(w4).heap.size→but w (w.heap.size+1) q:=fun q hq _=>by have h1:(W0).heap.size≤q:=hq;(try simp at h1);exact⟨by omega,by omega⟩
 have hK4:=HK.out.layX (f:= .one x) (m:=1) JH Ad (VE.rep (rp.mono hfr) (rl.mono hfr));have hp3:=(hp.set (L:=(w.heap.size+1)) hbL 4 (.slice (some ⟨(w4).heap.size,0,none⟩) 1 1)).alloc (.cells (hdC (x).h (.slice pa (x).h.p.length pc) (.slice la (x).kids.len lc)).toArray 29 (0,0));replace HK:=Z hK4;replace hp:=hp3;clear g rp rl hK4 hp3 hfr;replace HQ:=HQr HQ Em;go_wp2_with fail;refine(CJ hp HTk.out wTO Ad).mono ?_;have Iz{P}(h:P:=by have AV{P}(h:P:=by clear g d3 f3;exact aU):=Aa h;exact AT):=Aa h;exact Ir):=Aa h;exact Nv):=Aa h;exact AT):=Aa h;exact Ci):=Aa h;exact EM):=Aa h;exact Dj):=Aa h;exact Di
theorem qM(hn:Al l)(hnn:n≤100000)(hE:CE 56 b tv wo l wordsL (Aw l day n))(hok:∀i,At (Af l i))(hl:AF l):CS b tv wo l hn day n FB:=by
 have Dl{P}(h:P:=by generalize hR:(BG hn wordsL day n FB).f (i+1)=R at*;replace hR:(FC hn wordsL day n (sd0 13 FB)).f (i+1)=R:=hR;have HQ:=Z hR;obtain⟨hb,hfew,c1,f1,HB0⟩:=Db FB h hi;have Dm{P}(h:P:=by refine AL (fun W=>KA b w (w.heap.size+1) W 13 FB [] [] .nil .nil (.slice none 0 0) (.slice none 0 0) (.slice none 0 0)∧Par W b tv wo l wordsL (i+1)) HB0.out ?_;have EP{P}(h:P:=by go_wp2_with fail;refine(qO hn HE.out HTk.out HSh.out HK.out hp (fun e=>HO.out Cg)).mono ?_;exact L4):=Aa h;exact EM):=Aa h;exact Dj):=Aa h;exact Di
theorem xZ(hn:Al l)(hnn:n≤100000)(hE:CE 56 b tv wo l wordsL (Aw l day n))(hok:∀i,At (Af l i))(hl:AF l):CS b tv wo l hn day n Gp:=by
 have Dl{P}(h:P:=by generalize hR:(BG hn wordsL day n Gp).f (i+1)=R at*;replace hR:(F2 hn wordsL day n (sd0 13 Gp)).f (i+1)=R:=hR;have HQ:=Z hR;obtain⟨hb,hfew,c1,f1,HB0⟩:=Db Gp h hi;have Dm{P}(h:P:=by refine AL (fun W=>KA b w (w.heap.size+1) W 13 Gp [] [] .nil .nil (.slice none 0 0) (.slice none 0 0) (.slice none 0 0)∧Par W b tv wo l wordsL (i+1)) HB0.out ?_;have EP{P}(h:P:=by go_wp2_with fail;refine(x8 hn HE.out HTk.out HSh.out HK.out.toKS hp (fun e=>HO.out Cg)).mono ?_;exact L4):=Aa h;exact EM):=Aa h;exact Dj):=Aa h;exact Di
theorem x5(wd:Bs)(hw:cmdWords.contains wd=false){w:World}{i:Nat}(h:Par w b tv wo l wordsL i)(hi:i<l.length):
 Calls Tryz.prog 222 #[.pointer (some ⟨b,0,none⟩),str wd] w fun e w'=>e= .panicked (JA i)∧w.grownBy w' (some b):=by
 have eT{P}(h:P:=by have hb:=h.lt;have hfew:=h.few;have c1:=h.c1;have f1:=h.f1;have gI:=As (Aj w (some b)) 1 (.int .i64 ((i:Int)+1));have hpI:=h.goI ((i:Int)+1) (i+1) Ab Ab;have gz:w.grownBy (((w.setCell ⟨b,1,none⟩ (.int .i64 ((i:Int)+1))).alloc (.cells (stC 0 (.slice none 0 0)).toArray 50 (0,0))).alloc (.cells #[.int .i64 13,str wd,str [],.slice none 0 0,.slice none 0 0,.slice none 0 0,.int .i64 0,.slice none 0 0,.slice none 0 0,.slice none 0 0] 50 (0,0))) (some b):=Ar (Ar gI _) _;have HB0:=Z (Ac gz ((hpI.alloc (.cells (stC 0 (.slice none 0 0)).toArray 50 (0,0))).alloc (.cells #[.int .i64 13,str wd,str [],.slice none 0 0,.slice none 0 0,.slice none 0 0,.int .i64 0,.slice none 0 0,.slice none 0 0,.slice none 0 0] 50 (0,0))));clear h gI hpI gz;go_enter func222,ntmps222;go_upto_region 4 with fail;refine AL (fun W=>w.grownBy W (some b)∧Par W b tv wo l wordsL (i+1)) HB0.out ?_;rintro W0 ⟨gW,hp⟩;clear HB0 c1 f1;have c1:=hp.c1;have f1:=hp.f1;have hbl:=hp.lt;have gJ:=As (Aj W0 (some b)) 1 (.int .i64 (i:Int));have c2:=(hp.goI (i:Int) i rfl Ab).c1;go_wp2_with fail;refine(I1 c2).mono ?_;rintro e w5 ⟨rfl,rfl⟩;exact⟨rfl,rfl,Ah gW gJ⟩):=Aa h;exact Yw
theorem lY(hn:Al l)(hnn:n≤100000)(hE:CE 56 b tv wo l wordsL (Aw l day n))(hok:∀i,At (Af l i))(hl:AF l){wd:Bs}(hw:cmdWords.contains wd=true):CS b tv wo l hn day n wd:=by
 have hm:wd∈cmdWords:=GV;simp only[cmdWords,List.mem_cons,List.not_mem_nil,or_false]at hm;rcases hm with rfl|rfl|rfl|rfl|rfl|rfl|rfl|rfl|rfl|rfl|rfl|rfl|rfl|rfl|rfl|rfl|rfl
 ·exact pH hn hnn hE hok hl
 ·exact x3 hn hnn hE hok hl
 ·exact Ab8 hn hnn hE hok hl
 ·exact uE hn hnn hE hok hl
 ·exact uD hn hnn hE hok hl
 ·exact k4 hn hnn hE hok hl
 ·exact uC hn hnn hE hok hl
 ·exact x4 hn hnn hE hok hl
 ·exact pD hn hnn hE hok hl
 ·exact pF hn hnn hE hok hl
 ·exact pE hn hnn hE hok hl
 ·exact pG hn hnn hE hok hl
 ·exact lX hn hnn hE hok hl
 ·exact qL hn hnn hE hok hl
 ·exact x0 hn hnn hE hok hl
 ·exact qM hn hnn hE hok hl
 ·exact xZ hn hnn hE hok hl
end
def DQ(b:Nat)(tv wo:Value)(l:List Tok)(hn:Al l)(day:Bs→Int)(n:Nat)(block:Rd l Bl)(wd:Bs):Prop:=
 ∀(w:World)(i:Nat),Glob w→Par w b tv wo l wordsL i→i<l.length→(Bx hn wordsL day n block wd).f i ≠ .out→Calls Tryz.prog 179 #[.pointer (some ⟨b,0,none⟩),str wd] w (Post b tv wo l wordsL w (VSt w) ((Bx hn wordsL day n block wd).f i))
theorem Vp{b:Nat}{tv wo:Value}{l:List Tok}{w W:World}{i:Nat}{r:Res StB}(hb:b<w.heap.size)(g:w.grownBy W (some b))(hp:Par W b tv wo l wordsL i)(op:Int)(hr:r= .ok (sd0 op [],.nil) i)(o:Obj):
 Post b tv wo l wordsL w (VSt w) r (.returned (.agg #[.int .i64 op,str [],str [],.slice none 0 0,.slice none 0 0,.slice none 0 0,.int .i64 0,.slice none 0 0,.slice none 0 0,.slice none 0 0]))
  ((set10 W w.heap.size (.int .i64 op) (str []) (str []) (.slice none 0 0) (.slice none 0 0) (.slice none 0 0) (.int .i64 0) (.slice none 0 0) (.slice none 0 0) (.slice none 0 0)).alloc o):=by
 have cU{P}(h:P:=by exact Post.ok (Ar (A5 g g10 (.inr (Nat.le_refl _))) o) hr ⟨none,none,none,none,none,none,0,0,0,0,0,0,rfl,⟨Cells.nil _ _ _,RepL.nil _ _,RepL.nil _ _,RepL.nil _ _,RepL.nil _ _⟩,RepV.nil _ _ _⟩ ((hp.gb g10 A6).alloc o)):=Aa h;exact Th
section
variable {b:Nat}{tv wo:Value}{l:List Tok}{day:Bs→Int}{n:Nat}
theorem qR{block:Rd l Bl}(hn:Al l)(hnn:n≤90000)(hB:CQB b tv wo l block.f)(hE:CE 56 b tv wo l wordsL (Aw l day n))(hok:∀i,At (Af l i))(hl:AF l)(hgb:0<b):DQ b tv wo l hn day n block Gh:=by
 have F0{P}(h:P:=by generalize hR:(Bx hn wordsL day n block Gh).f i=R at*;replace hR:(CH hn day n Gh).f (i+1)=R:=hR;have Fz{P}(h:P:=by go_upto_region 7 with fail;have Fw{P}(h:P:=by have HC:=Z (LY hn Ab HE.out HSh.out hp Gh (fun e=>HO.out Cg));exact Gu):=Aa h;exact Fp):=Aa h;exact Fs):=Aa h;exact Ft
theorem lZ{block:Rd l Bl}(hn:Al l)(hnn:n≤90000)(hB:CQB b tv wo l block.f)(hE:CE 56 b tv wo l wordsL (Aw l day n))(hok:∀i,At (Af l i))(hl:AF l)(hgb:0<b):DQ b tv wo l hn day n block FW:=by
 have F0{P}(h:P:=by generalize hR:(Bx hn wordsL day n block FW).f i=R at*;replace hR:(CH hn day n FW).f (i+1)=R:=hR;have Fz{P}(h:P:=by go_upto_region 7 with fail;have Fw{P}(h:P:=by have HC:=Z (LY hn Ab HE.out HSh.out hp FW (fun e=>HO.out Cg));exact Gu):=Aa h;exact Fp):=Aa h;exact Fs):=Aa h;exact Ft
theorem pI{block:Rd l Bl}(hn:Al l)(hnn:n≤90000)(hB:CQB b tv wo l block.f)(hE:CE 56 b tv wo l wordsL (Aw l day n))(hok:∀i,At (Af l i))(hl:AF l)(hgb:0<b):DQ b tv wo l hn day n block Gd:=by
 have F0{P}(h:P:=by generalize hR:(Bx hn wordsL day n block Gd).f i=R at*;replace hR:(CH hn day n Gd).f (i+1)=R:=hR;have Fz{P}(h:P:=by go_upto_region 7 with fail;have Fw{P}(h:P:=by have HC:=Z (LY hn Ab HE.out HSh.out hp Gd (fun e=>HO.out Cg));exact Gu):=Aa h;exact Fp):=Aa h;exact Fs):=Aa h;exact Ft
theorem pK{block:Rd l Bl}(hn:Al l)(hnn:n≤90000)(hB:CQB b tv wo l block.f)(hE:CE 56 b tv wo l wordsL (Aw l day n))(hok:∀i,At (Af l i))(hl:AF l)(hgb:0<b):DQ b tv wo l hn day n block Ge:=by
 have F0{P}(h:P:=by generalize hR:(Bx hn wordsL day n block Ge).f i=R at*;replace hR:(CH hn day n Ge).f (i+1)=R:=hR;have Fz{P}(h:P:=by go_upto_region 7 with fail;have Fw{P}(h:P:=by have HC:=Z (LY hn Ab HE.out HSh.out hp Ge (fun e=>HO.out Cg));exact Gu):=Aa h;exact Fp):=Aa h;exact Fs):=Aa h;exact Ft
theorem AbB{block:Rd l Bl}(hn:Al l)(hnn:n≤90000)(hB:CQB b tv wo l block.f)(hE:CE 56 b tv wo l wordsL (Aw l day n))(hok:∀i,At (Af l i))(hl:AF l)(hgb:0<b):DQ b tv wo l hn day n block wIF:=by
 have F0{P}(h:P:=by generalize hR:(Bx hn wordsL day n block wIF).f i=R at*;replace hR:(DY hn wordsL day n block F6 H8 Hw).f (i+1)=R:=hR;have Fz{P}(h:P:=by go_upto_region 10 with fail;have Fw{P}(h:P:=by have HC:=Z (UM (more:=F6) (other:=H8) (last:=Hw) hn Ab HBk.out HE.out HTk.out (DO HGl.out.1 HGl.out.2 HZ.out.2) HGl.out.2 Ad Ad Ad hp (fun e=>HO.out Cg));exact Gu):=Aa h;exact Fp):=Aa h;exact Fs):=Aa h;exact Ft
theorem AbA{block:Rd l Bl}(hn:Al l)(hnn:n≤90000)(hB:CQB b tv wo l block.f)(hE:CE 56 b tv wo l wordsL (Aw l day n))(hok:∀i,At (Af l i))(hl:AF l)(hgb:0<b):DQ b tv wo l hn day n block wDO:=by
 have F0{P}(h:P:=by generalize hR:(Bx hn wordsL day n block wDO).f i=R at*;replace hR:(doP hn wordsL day n block).f (i+1)=R:=hR;have Fz{P}(h:P:=by go_upto_region 13 with fail;have Fw{P}(h:P:=by have HC:=Z (Ab9 hn Ab HBk.out HE.out HTk.out HSh.out (DO HGl.out.1 HGl.out.2 HZ.out.2) HGl.out.2 hp (fun e=>HO.out Cg));exact Gu):=Aa h;exact Fp):=Aa h;exact Fs):=Aa h;exact Ft
theorem x7{block:Rd l Bl}(hn:Al l)(hnn:n≤90000)(hB:CQB b tv wo l block.f)(hE:CE 56 b tv wo l wordsL (Aw l day n))(hok:∀i,At (Af l i))(hl:AF l)(hgb:0<b):DQ b tv wo l hn day n block BH:=by
 have F0{P}(h:P:=by generalize hR:(Bx hn wordsL day n block BH).f i=R at*;replace hR:(Fb hn wordsL day n block).f (i+1)=R:=hR;have Fz{P}(h:P:=by go_upto_region 16 with fail;have Fw{P}(h:P:=by have HC:=Z (uI hn HBk.out HE.out HTk.out HSh.out (DO HGl.out.1 HGl.out.2 HZ.out.2) HGl.out.2 hp (fun e=>HO.out Cg));exact Gu):=Aa h;exact Fp):=Aa h;exact Fs):=Aa h;exact Ft
theorem qP{block:Rd l Bl}(hn:Al l)(hnn:n≤90000)(hB:CQB b tv wo l block.f)(hE:CE 56 b tv wo l wordsL (Aw l day n))(hok:∀i,At (Af l i))(hl:AF l)(hgb:0<b):DQ b tv wo l hn day n block Hy:=by
 have F0{P}(h:P:=by generalize hR:(Bx hn wordsL day n block Hy).f i=R at*;replace hR:(ET hn wordsL block).f (i+1)=R:=hR;have Fz{P}(h:P:=by go_upto_region 30 with fail;have Fw{P}(h:P:=by have HC:=Z (qN hn HBk.out HTk.out HSh.out (DO HGl.out.1 HGl.out.2 HZ.out.2) HGl.out.2 hp (fun e=>HO.out Cg));exact Gu):=Aa h;exact Fp):=Aa h;exact Fs):=Aa h;exact Ft
theorem uH{block:Rd l Bl}(hn:Al l)(hnn:n≤90000)(hB:CQB b tv wo l block.f)(hE:CE 56 b tv wo l wordsL (Aw l day n))(hok:∀i,At (Af l i))(hl:AF l)(hgb:0<b):DQ b tv wo l hn day n block FE:=by
 have F0{P}(h:P:=by
 generalize hR:(Bx hn wordsL day n block FE).f i=R at*;replace hR:(Rd.fin.bind fun _=>Rd.pure (sd0 6 [],Bl.nil)).f (i+1)=R:=hR;have Fz{P}(h:P:=by
 go_upto_region 20 with fail;have Fw{P}(h:P:=by
 have DC{P}(h:P:=by
 have N4{P}(h:P:=by
 have DX{P}(h:P:=by
 have Cj{P}(h:P:=by
 clear g;replace HQ:=HQr HQ Bj;have hz2:=HZ.out.1;have HE9:=Z (Ac hz2 (Ac HZ.out.2 hp));have NE{P}(h:P:=by
 have iQ{P}(h:P:=by
 clear hz2 HZ hp;go_wp2;refine bodyPost_ret ?hr9 rfl (Vp hb HE9.out.2.1 HE9.out.2.2 6 HQ.out.symm _)
 case hr9=>exact FL rfl _ ((HE9.out.1.set10 (.int .i64 6) (str []) (str []) (.slice none 0 0) (.slice none 0 0) (.slice none 0 0) (.int .i64 0) (.slice none 0 0) (.slice none 0 0) (.slice none 0 0)).alloc _) rfl rfl):=Aa h;exact ZX):=Aa h;exact Na):=Aa h;exact Ch):=Aa h;exact DW):=Aa h;exact LJ):=Aa h;exact D8):=Aa h;exact Fp):=Aa h;exact Fs):=Aa h;exact Ft
theorem uG{block:Rd l Bl}(hn:Al l)(hnn:n≤90000)(hB:CQB b tv wo l block.f)(hE:CE 56 b tv wo l wordsL (Aw l day n))(hok:∀i,At (Af l i))(hl:AF l)(hgb:0<b):DQ b tv wo l hn day n block FD:=by
 have F0{P}(h:P:=by
 generalize hR:(Bx hn wordsL day n block FD).f i=R at*;replace hR:(Rd.fin.bind fun _=>Rd.pure (sd0 7 [],Bl.nil)).f (i+1)=R:=hR;have Fz{P}(h:P:=by
 go_upto_region 20 with fail;have Fw{P}(h:P:=by
 have DC{P}(h:P:=by
 have N4{P}(h:P:=by
 have DX{P}(h:P:=by
 have Cj{P}(h:P:=by
 clear g;replace HQ:=HQr HQ Bj;have hz2:=HZ.out.1;have HE9:=Z (Ac hz2 (Ac HZ.out.2 hp));have NE{P}(h:P:=by
 have iR{P}(h:P:=by
 clear hz2 HZ hp;go_wp2;refine bodyPost_ret ?hr9 rfl (Vp hb HE9.out.2.1 HE9.out.2.2 7 HQ.out.symm _)
 case hr9=>exact FL rfl _ ((HE9.out.1.set10 (.int .i64 7) (str []) (str []) (.slice none 0 0) (.slice none 0 0) (.slice none 0 0) (.int .i64 0) (.slice none 0 0) (.slice none 0 0) (.slice none 0 0)).alloc _) rfl rfl):=Aa h;exact ZY):=Aa h;exact Na):=Aa h;exact Ch):=Aa h;exact DW):=Aa h;exact LJ):=Aa h;exact D8):=Aa h;exact Fp):=Aa h;exact Fs):=Aa h;exact Ft
theorem pJ{block:Rd l Bl}(hn:Al l)(hnn:n≤90000)(hB:CQB b tv wo l block.f)(hE:CE 56 b tv wo l wordsL (Aw l day n))(hok:∀i,At (Af l i))(hl:AF l)(hgb:0<b):DQ b tv wo l hn day n block CD:=by
 have F0{P}(h:P:=by
 generalize hR:(Bx hn wordsL day n block CD).f i=R at*;replace hR:(EZ l (Aw l day n) (i+1)).bind (fun f k=>(Rd.fin.bind fun _=>Rd.pure ({sd0 8 []with x:=f},Bl.nil)).f k)=R:=hR;have Fz{P}(h:P:=by
 go_upto_region 25 with fail;have Fw{P}(h:P:=by
 have HPP:=Z hp;clear hp;cases hr6:EZ l (Aw l day n) (i+1)with
 |out=>exact absurd Bz HO.out
 | bad q6=>
   refine Jr (b := b) (R := fun c W => if c then False else Par W b tv wo l wordsL (i + 1)) (x := .nil) (k1 := CD) (v1 := 8) (k2 := CB) (v2 := 12) (op := 8) (k := 83) (fc := 220) (tp := 94) (wd := CD) (pos := "parse.go:232")
    ⟨?_,by have:=HPP.out.lt;exact this,by omega,by simp,rfl,rfl,by decide,.inl ⟨rfl,rfl⟩,fun _ _=>by kernel_rfl,fun W gW hR=>?_⟩ (HPP.out.gbN (An (Aj _ _))) ?_
   ·exact T4
   ·exact ZM
   ·intro W m s v g hR;exact hR.elim
 |ok f j=>
 replace HQ:=HQr HQ (by rw[hr6,Res.bind_ok,Rd.fin_f]);refine Jr (b := b) (R := fun c W => Par W b tv wo l wordsL (if c then j else i + 1)) (x := f) (k1 := CD) (v1 := 8) (k2 := CB) (v2 := 12) (op := 8) (k := 83) (fc := 220) (tp := 94) (wd := CD) (pos := "parse.go:232")
  ⟨fun _ _ _ _ h g ho=>h.gb g ho,by have:=HPP.out.lt;exact this,by omega,by simp,rfl,rfl,by decide,.inl ⟨rfl,rfl⟩,fun _ _=>by kernel_rfl,fun W gW hR=>?_⟩ (HPP.out.gbN (An (Aj _ _))) ?_
 ·exact Z5
 ·have NT{P}(h:P:=by have gW:W0.grownBy W (some b):=Ah (An (Aj W0 _)) g;have hp:Par W b tv wo l wordsL j:=hR;have f6{P}(h:P:=by refine(Gb hp).mono ?_;exact Oy):=Aa h;exact Zk):=Aa h;exact Nq):=Aa h
 exact Fp):=Aa h;exact Fs):=Aa h;exact Ft
theorem qQ{block:Rd l Bl}(hn:Al l)(hnn:n≤90000)(hB:CQB b tv wo l block.f)(hE:CE 56 b tv wo l wordsL (Aw l day n))(hok:∀i,At (Af l i))(hl:AF l)(hgb:0<b):DQ b tv wo l hn day n block CB:=by
 have F0{P}(h:P:=by
 generalize hR:(Bx hn wordsL day n block CB).f i=R at*;replace hR:(EZ l (Aw l day n) (i+1)).bind (fun f k=>(Rd.fin.bind fun _=>Rd.pure ({sd0 12 []with x:=f},Bl.nil)).f k)=R:=hR;have Fz{P}(h:P:=by
 go_upto_region 25 with fail;have Fw{P}(h:P:=by
 have HPP:=Z hp;clear hp;cases hr6:EZ l (Aw l day n) (i+1)with
 |out=>exact absurd Bz HO.out
 | bad q6=>
   refine Jr (b := b) (R := fun c W => if c then False else Par W b tv wo l wordsL (i + 1)) (x := .nil) (k1 := CD) (v1 := 8) (k2 := CB) (v2 := 12) (op := 12) (k := 83) (fc := 220) (tp := 94) (wd := CB) (pos := "parse.go:232")
    ⟨?_,by have:=HPP.out.lt;exact this,by omega,by simp,rfl,rfl,by decide,.inr ⟨rfl,rfl⟩,fun _ _=>by kernel_rfl,fun W gW hR=>?_⟩ (HPP.out.gbN (An (Aj _ _))) ?_
   ·exact T4
   ·exact ZM
   ·intro W m s v g hR;exact hR.elim
 |ok f j=>
 replace HQ:=HQr HQ (by rw[hr6,Res.bind_ok,Rd.fin_f]);refine Jr (b := b) (R := fun c W => Par W b tv wo l wordsL (if c then j else i + 1)) (x := f) (k1 := CD) (v1 := 8) (k2 := CB) (v2 := 12) (op := 12) (k := 83) (fc := 220) (tp := 94) (wd := CB) (pos := "parse.go:232")
  ⟨fun _ _ _ _ h g ho=>h.gb g ho,by have:=HPP.out.lt;exact this,by omega,by simp,rfl,rfl,by decide,.inr ⟨rfl,rfl⟩,fun _ _=>by kernel_rfl,fun W gW hR=>?_⟩ (HPP.out.gbN (An (Aj _ _))) ?_
 ·exact Z5
 ·have NT{P}(h:P:=by have gW:W0.grownBy W (some b):=Ah (An (Aj W0 _)) g;have hp:Par W b tv wo l wordsL j:=hR;have f5{P}(h:P:=by refine(Gb hp).mono ?_;exact Oy):=Aa h;exact Zj):=Aa h;exact Nq):=Aa h
 exact Fp):=Aa h;exact Fs):=Aa h;exact Ft
theorem VH{wd:Bs}(hw:saidWords.contains wd=false){w:World}{i:Nat}(h:Par w b tv wo l wordsL i){C:Res Sd}
 (hC:∀W,Par W b tv wo l wordsL i→Calls Tryz.prog 222 #[.pointer (some ⟨b,0,none⟩),str wd] W (Post b tv wo l wordsL W (VSd W) C)):
 Calls Tryz.prog 179 #[.pointer (some ⟨b,0,none⟩),str wd] w (Post b tv wo l wordsL w (VSt w) (C.bind fun s j=>(BP l j).bind fun _ k=> .ok (s,.nil) k)):=by
 have fB{P}(h:P:=by
 have hb:=h.lt;generalize hR:(C.bind fun s j=>(BP l j).bind fun _ k=>Res.ok (s,Bl.nil) k)=R;have HQ:=Z hR;have RV{P}(h:P:=by
 have hl0:=HZ.out.1.lt;have HC:=Z (hC _ (h.alloc (.cells (stC 0 (.slice none 0 0)).toArray 50 (0,0))));clear hC h hR;go_enter func179,ntmps179;go_wp2_with fail;refine HC.out.mono ?_;intro e w2 hq;obtain⟨g,⟨q,hr,rfl⟩| ⟨s,j,v,hr,rfl,⟨pa,xa,na,fa,wa,ba,pc,xc,nc,fc,wc,bc,rfl,k1,k2⟩,hp⟩⟩:=hq.split
 ·exact D6
 replace HQ:=HQr HQ DU;clear hr;have HK:=Z (KS.ofV (HZ.out.1.gb g Ag) (Ah HZ.out.2 g) hb hl0 k1 k2);have hp2:=hp.alloc (.cells (sdC s (.slice pa s.p.length pc) (.slice xa s.x.len xc) (.slice ba (Bl.nil).len bc) (.slice na s.n.len nc) (.slice fa s.f.len fc) (.slice wa s.w.len wc)).toArray 50 (0,0));replace hp:=hp2;clear g k1 k2 hp2 HC HZ;simp only[sdC];go_wp2_with fail;refine(Gb hp).mono ?_;intro e w3 hq;have N8{P}(h:P:=by exact Ow):=Aa h;exact LT):=Aa h;exact Ra):=Aa h;exact Y8
theorem qS{block:Rd l Bl}(hn:Al l)(hnn:n≤90000)(hE:CE 56 b tv wo l wordsL (Aw l day n))(hok:∀i,At (Af l i))(hl:AF l){wd:Bs}(hw:saidWords.contains wd=false):DQ b tv wo l hn day n block wd:=by
 intro w i _ h hi ho;have hne:∀v,v∈saidWords→wd≠v:=by
  rintro v hv rfl;exact LN
 have e:(Bx hn wordsL day n block wd).f i=(if cmdWords.contains wd then(BG hn wordsL day n wd).f (i+1)else .bad i).bind fun s j=>(BP l j).bind fun _ k=> .ok (s,.nil) k:=by
  unfold Bx;rw[if_neg (by rintro(h|h|h|h)<;>exact hne _ Ad h),if_neg (hne wIF Ad),if_neg (hne wDO Ad),if_neg (hne BH Ad),if_neg (hne FE Ad),if_neg (hne FD Ad),if_neg (hne CD Ad),if_neg (hne CB Ad),if_neg (hne Hy Ad)];cases hc:cmdWords.contains wd with
  |true=>rw[if_pos rfl,if_pos rfl];rfl
  |false=>rw[if_neg Ae,if_neg Ae];rfl
 rw[e]at ho ⊢;cases hc:cmdWords.contains wd with
 | true=>
   rw[hc,if_pos rfl]at ho;rw[if_pos rfl];exact VH hw h (fun W hW=>lY hn Ab hE hok hl hc W i hW hi (fun e=>ho (by rw[e];rfl)))
 | false=>
   rw[if_neg Ae];refine VH hw h (fun W hW=>(x5 wd hc hW hi).mono ?_);rintro e w' ⟨rfl,g⟩;exact Post.bad g rfl
theorem qT{block:Rd l Bl}(hn:Al l)(hnn:n≤90000)(hB:CQB b tv wo l block.f)(hE:CE 56 b tv wo l wordsL (Aw l day n))(hok:∀i,At (Af l i))(hl:AF l)(hgb:0<b)(wd:Bs):DQ b tv wo l hn day n block wd:=by
 cases hw:saidWords.contains wd with
 |false=>exact qS hn hnn hE hok hl hw
 | true=>
   have hm:wd∈saidWords:=GV;simp only[saidWords,List.mem_cons,List.not_mem_nil,or_false]at hm;rcases hm with rfl|rfl|rfl|rfl|rfl|rfl|rfl|rfl|rfl|rfl|rfl|rfl
   ·exact qR hn hnn hB hE hok hl hgb
   ·exact lZ hn hnn hB hE hok hl hgb
   ·exact pI hn hnn hB hE hok hl hgb
   ·exact pK hn hnn hB hE hok hl hgb
   ·exact AbB hn hnn hB hE hok hl hgb
   ·exact AbA hn hnn hB hE hok hl hgb
   ·exact x7 hn hnn hB hE hok hl hgb
   ·exact uH hn hnn hB hE hok hl hgb
   ·exact uG hn hnn hB hE hok hl hgb
   ·exact pJ hn hnn hB hE hok hl hgb
   ·exact qQ hn hnn hB hE hok hl hgb
   ·exact qP hn hnn hB hE hok hl hgb
end
end Go.Proofs.YtmcajbhljbbglaaGreatDoor
