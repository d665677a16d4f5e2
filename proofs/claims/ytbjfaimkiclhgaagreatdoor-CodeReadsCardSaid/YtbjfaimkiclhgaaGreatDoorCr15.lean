/-
  QgJ QgK ProD TxM Code: two hexadecimal digits, as strconv.ParseUint reads them. Code: the reference's reader of texts: numbers. Code: what the reference's reader knows of a text at each of its steps. 
-/
import Derived.Test.YtbjfaimkiclhgaaGreatDoorCr12
import Derived.Test.YtbjfaimkiclhgaaGreatDoorCr11
import Derived.Test.YtbjfaimkiclhgaaGreatDoorCr04
import Derived.Test.YtbjfaimkiclhgaaGreatDoorCr03
import Derived.Test.YtbjfaimkiclhgaaGreatDoorCr02
import Derived.Test.YtbjfaimkiclhgaaGreatDoorCr05
import Derived.Test.YtbjfaimkiclhgaaGreatDoorCr10
import Derived.Deep.Cut
import Derived.Laws.AppendOwn
import Derived.Laws.OwnMore
import Derived.Test.YtbjfaimkiclhgaaGreatDoorCr09
set_option linter.all false
set_option maxRecDepth 100000
set_option maxHeartbeats 8000000
namespace Go.Proofs.YtbjfaimkiclhgaaGreatDoor
open Go.Proofs.Tryz
open Go.RowKit
variable{w wr w1 w0 W:World}{b i n L B pc bc j H k i1 i2 i3 k':Nat}{tv wo v:Value}{l:List Int}{day:Bs->Int}{wd s t nm:Bs}{ok ok1:Bool}{a:List Pq}{r:Option Nat}{q:Pq}{pa ba:Option Addr}{h:Hd}{ks:List (Hd×Bs)}{m:Int}{c:Cd}{us:List Un}{cs:List Cd}
def Li{l:List Tok}(hn:Al l)(wd p:Bs)(f:Fo):Rd l Sd:=
 (Rd.here wordsL).bind λw=>(if w=Ic\/w=Ha then Rd.skip.bind λ_=>Rd.pure w else Rd.pure []).bind λt=>
  (Rd.ifw wordsL CP (Rd.pure [p,CP]) (Rd.pure [p])).bind λps=>Rd.pure {sd0 13 wd with p:=ps,x:=f,t:=t}
section
variable {l:List Tok}
def WB(h:Par w b tv wo l wordsL i)(hok:∀i,At (Ab l i))(s:Bs)(hs:s≠[]):
 Calls Tryz.prog 245 #[.pointer (some ⟨b,0,none⟩),str s] w λe w'=>e= .returned (.bool (As l wordsL i==s))/\Par w' b tv wo l wordsL (if As l wordsL i==s then i+1 else i)/\w.grownBy w' (some b):=by
 cases hw:As l wordsL i==s with
 |true=>exact(Dj h hok s hs hw).mono λe w' ⟨h1,h2,h3⟩=>⟨h1,h2,h3⟩
 |false=>exact(Dh h hok s hw).mono λe w' ⟨h1,h2⟩=>⟨h1,h.gbN h2,Ao h2⟩
def SK(hn:Al l)(hE:CE 208 b tv wo l wordsL (Ak l day n))(hok:∀i,At (Ab l i))(hl:A0 l)(k:KA b w L wr 13 wd [] [] .nil .nil (.slice none 0 0) (.slice none 0 0) (.slice none 0 0))(h:Par wr b tv wo l wordsL i)(ho:(F5 hn wordsL day n (sd0 13 wd)).f i ≠ .out):
 Calls Tryz.prog 353 #[.pointer (some ⟨b,0,none⟩),.pointer (some ⟨L,0,none⟩)] wr (Post b tv wo l wordsL w (VIn b w L) ((F5 hn wordsL day n (sd0 13 wd)).f i)):=by
 have hb:=h.lt;have HO:=S ho;generalize hR:(F5 hn wordsL day n (sd0 13 wd)).f i=R at*;unfold F5 at hR;rw[Rd.must_f]at hR;have HQ:=S hR;have HE:=S hE;have HTk:=S hok;have HSh:=S hl;have HK:=S k;have hp:=h;clear hE hok hl h ho hR k;go_enter func353,ntmps353;go_wp2_with fail;refine(BK hp HTk.1 wON (by decide)).mono ?_;intro e w1 hq;obtain⟨g,⟨q,hr,rfl⟩| ⟨u,i1,v,hr,rfl,rfl,hp9⟩⟩:=hq.split
 ·exact⟨rfl,Post.bad (Z HK.1.gr g) (by rw[<-HQ.1,hr];rfl)⟩
 replace HK:=S (HK.1.gb g);replace hp:=hp9;clear hp9;rw[hr,Res.bind_ok]at HQ;clear hr g;rw[Rd.expr_f]at HQ;have hkl:=HK.1.lt;have hwL:=HK.1.wL;have hbL:=HK.1.bL;have HFr:=S (λq hq=>HK.1.fresh q hq);go_wp2_with fail;refine(HE.1 _ _ hp (λe=>HO.1 (by rw[<-HQ.1,e];rfl))).mono ?_;intro e w2 hq;obtain⟨g,⟨q,hr,rfl⟩| ⟨x,i2,v,hr,rfl,⟨pa,pc,la,lc,rfl,rp,rl⟩,hp9⟩⟩:=hq.split
 ·exact⟨rfl,Post.bad (Z HK.1.gr g) (by rw[<-HQ.1,hr];rfl)⟩
 replace HK:=S (HK.1.gb g);replace hp:=hp9;clear hp9;rw[hr,Res.bind_ok]at HQ;clear hr;have hkl2:=HK.1.lt;have d2:=HK.1.blk.cell' 4 rfl;have f2:=HK.1.blk.frozen 4;have hp3:=(hp.set (L:=L) hbL 4 (.slice (some ⟨w2.heap.size,0,none⟩) 1 1)).alloc (.cells (hdC x.h (.slice pa x.h.p.length pc) (.slice la x.kids.len lc)).toArray 163 (0,0));have hK3:=HK.1.layX rp rl (λq hq=>HFr.1 q hq);replace HK:=S hK3;replace hp:=hp3;clear hK3 hp3 g rp rl HFr;rw[Rd.must_f]at HQ;go_wp2_with fail;refine(BK hp HTk.1 wTAG (by decide)).mono ?_;intro e w4 hq;obtain⟨g,⟨q,hr,rfl⟩| ⟨u,i4,v,hr,rfl,rfl,hp9⟩⟩:=hq.split
 ·exact⟨rfl,Post.bad (Z HK.1.gr g) (by rw[<-HQ.1,hr];rfl)⟩
 replace HK:=S (HK.1.gb g);replace hp:=hp9;clear hp9;rw[hr,Res.bind_ok]at HQ;clear hr g d2 f2;rw[Rd.name_f]at HQ;have hkl:=HK.1.lt;go_wp2_with fail;refine(B7 hp HSh.1).mono ?_;intro e w5 hq;obtain⟨g,⟨q,hr,rfl⟩| ⟨p,i5,v,hr,rfl,rfl,hp9⟩⟩:=hq.split
 ·exact⟨rfl,Post.bad (Z HK.1.gr g) (by rw[<-HQ.1,hr];rfl)⟩
 replace HK:=S (HK.1.gb g);replace hp:=hp9;clear hp9;rw[hr,Res.bind_ok]at HQ;clear hr g;have hkl5:=HK.1.lt;have d3:=HK.1.blk.cell' 3 rfl;have f3:=HK.1.blk.frozen 3;have hp6:=(hp.set (L:=L) hbL 3 (.slice (some ⟨w5.heap.size,0,none⟩) 1 1)).alloc (.cells #[str p] 9 (0,0));have hK6:=HK.1.layP p;have HW:=S (WB hp6 HTk.1 CS (by decide));replace HK:=S hK6;clear hK6 hp6 hp;go_wp2_with fail;refine HW.1.mono ?_;rintro e w7 ⟨rfl,hp9,g7⟩;have hp:=hp9;clear hp9;replace HK:=S (HK.1.gb g7);clear g7 HW d3 f3;generalize hsl1:Value.slice (some ⟨w5.heap.size,0,none⟩) 1 1=pv at*;clear hsl1;generalize hsl2:Value.slice (some ⟨w2.heap.size,0,none⟩) 1 1=xv at*;clear hsl2;rw[Rd.bind_f,Rd.ifw_f]at HQ;generalize hwr:(As l wordsL i5==CS)=ok at*;clear hwr;go_upto_if 22 with fail
 go_cut []from 5 (λwx=>∃xv' f j,KA b w L wx 13 wd [] [p] f .nil pv xv' (.slice none 0 0)/\Par wx b tv wo l wordsL j/\(Li hn wd p f).f j=R)
 case first=>
  cases ok with
  | false=>
    rw[if_neg (nF (show(false:Bool)=false from rfl)),Rd.pure_f,Res.bind_ok]at HQ;go_wp2;go_meet
    case rel=>exact⟨_,_,_,HK.1,hp,HQ.1⟩
  | true=>
    rw[if_pos (rfl:true=true)]at HQ;have hp1:Par w7 b tv wo l wordsL (i5+1):=hp;replace hp:=hp1;clear hp1;have e0:Res.bind (Res.bind (Ak l day n (i5+1)) _) _=R:=HQ.1;replace HQ:=S e0;clear e0;have hkl:=HK.1.lt;have hx4:=HK.1.blk.cell' 4 rfl;cases hr6:Ak l day n (i5+1)with
    |out=>exact absurd (by rw[<-HQ.1,hr6];rfl) HO.1
    | bad q6=>
      go_upto_region 5 with fail;obtain⟨i0,hi0,hz0,hz1,hz2⟩:=info_parts CJ;have HI:=S (X hi0 (X hz0 (X hz1 hz2)));obtain⟨xa9,xc9,e9⟩:=HK.1.shapeX
      (first|subst e9|cases e9|clear e9);have hbL:=HK.1.bL;have hwL:=HK.1.wL;have hkl:=HK.1.lt;have hx4:=HK.1.blk.cell' 4 rfl;have n0:(0:Int)<=(((Fo.one x)).len:Int):=by omega
      have n1:(((Fo.one x)).len:Int)<((((Fo.one x)).len+1:Nat):Int):=by omega
      have n2:(((Fo.one x)).len:Int)<(((Fo.one x)).len:Int)+1:=by omega
      have kA:=(HK.1.gbN (Ad (Aa w7 none))).alloc (.cells zeroE.toArray 163 (0,0));obtain⟨csA,hoA,hrA⟩:=kA.x;have HA1:=S (X kA (X hoA (X hrA ((hp.drewN 1).alloc (.cells zeroE.toArray 163 (0,0))))));clear hi0 hz0 hz1 hz2 kA hoA hrA;go_region_law(first
       | (refine step_append_lies _ (by rfl) _ _ 129 (by rfl) ((w).heap.size+1) 163 i0 _ 7 104 underlying129 HI.1.1 HI.1.2.1 HI.1.2.2.1 HI.1.2.2.2 rfl (by decide) _ _ csA (by rfl) HA1.1.2.1 ⟨(w7).heap.size,0,none⟩ 1 1 zeroE (by rfl) rfl (AP _ _ _) (by simp[zeroE,Value.oneCell']) (by decide) (by unfold maxLen;omega) (by omega) (by first|omega| (simp<;>omega)) _ rfl ?_;intro j cap w7 hown hgrow hat hlt;(have HP1:=S (X (HA1.1.1.pend rfl HA1.1.2.1 HA1.1.2.2.1 hown hgrow hat) (HA1.1.2.2.2.gb hgrow (λq hq=>(HA1.1.1.belowX q hq).1))));(have f7:=(HA1.1.1.blk.gb hgrow HA1.1.1.neX).frozen 4);(have d7:=(HA1.1.1.blk.gb hgrow HA1.1.1.neX).cell' 4 rfl);(have l7:=HP1.1.1.lt);(have s7:=hgrow.size);(have bj7:=HP1.1.1.bj);clear hown hgrow hat)
       | (go_simp;go_at_call 208;refine(HE.1 _ _ HP1.1.2 (by rw[hr6];simp)).mono ?_;rintro e w8 hq8;rw[hr6]at hq8;obtain⟨g8,rfl⟩:=hq8;refine Bt (P:=Tryz.prog) ⟨rfl,Post.bad (Z HP1.1.1.gr g8) (by rw[<-HQ.1,hr6];rfl)⟩ ⟨#[],[]⟩ w8 ?_)
       | (go_simp;go_at_call 208;refine(HE.1 _ _ (HP1.1.2.gb (Ai (Aa w7 (some L)) 4 (.slice (some ⟨j,0,none⟩) (((Fo.one x)).len+1) cap)) (by intro q e;cases e;omega)) (by rw[hr6];simp)).mono ?_;rintro e w8 hq8;rw[hr6]at hq8;obtain⟨g8,rfl⟩:=hq8;refine Bt (P:=Tryz.prog) ⟨rfl,Post.bad (Z (HP1.1.1.put4 (.slice (some ⟨j,0,none⟩) (((Fo.one x)).len+1) cap)).gr g8) (by rw[<-HQ.1,hr6];rfl)⟩ ⟨#[],[]⟩ w8 ?_)
       | (go_simp;go_at_call 208;refine(HE.1 _ _ (hp.drewN 1) (by rw[hr6];simp)).mono ?_;rintro e w8 hq8;rw[hr6]at hq8;obtain⟨g8,rfl⟩:=hq8;refine Bt (P:=Tryz.prog) ⟨rfl,Post.bad (Z (Ad HK.1.gr) g8) (by rw[<-HQ.1,hr6];rfl)⟩ ⟨#[],[]⟩ w8 ?_)
       | (go_simp;go_at_call 208;refine(HE.1 _ _ HA1.1.2.2.2 (by rw[hr6];simp)).mono ?_;rintro e w8 hq8;rw[hr6]at hq8;obtain⟨g8,rfl⟩:=hq8;refine Bt (P:=Tryz.prog) ⟨rfl,Post.bad (Z HA1.1.1.gr g8) (by rw[<-HQ.1,hr6];rfl)⟩ ⟨#[],[]⟩ w8 ?_))
      all_goals trivial
    |ok y j6=>
    rw[hr6,Res.bind_ok]at HQ;go_upto_region 5 with fail;obtain⟨i0,hi0,hz0,hz1,hz2⟩:=info_parts CJ;have HI:=S (X hi0 (X hz0 (X hz1 hz2)));have hroom:=(show(Fo.one x).len<=5 by simp[Fo.one,Ex.fo,Fo.len]);obtain⟨xa9,xc9,e9⟩:=HK.1.shapeX
    (first|subst e9|cases e9|clear e9);have hbL:=HK.1.bL;have hwL:=HK.1.wL;have hkl:=HK.1.lt;have hx4:=HK.1.blk.cell' 4 rfl;have n0:(0:Int)<=(((Fo.one x)).len:Int):=by omega
    have n1:(((Fo.one x)).len:Int)<((((Fo.one x)).len+1:Nat):Int):=by omega
    have n2:(((Fo.one x)).len:Int)<(((Fo.one x)).len:Int)+1:=by omega
    have HFr:=S (λq hq=>HK.1.fresh q hq);have kA:=(HK.1.gbN (Ad (Aa w7 none))).alloc (.cells zeroE.toArray 163 (0,0));obtain⟨csA,hoA,hrA⟩:=kA.x;have HA1:=S (X kA (X hoA (X hrA ((hp.drewN 1).alloc (.cells zeroE.toArray 163 (0,0))))));clear hi0 hz0 hz1 hz2 kA hoA hrA;go_region_law(first
     | (refine step_append_lies _ (by rfl) _ _ 129 (by rfl) ((w).heap.size+1) 163 i0 _ 7 104 underlying129 HI.1.1 HI.1.2.1 HI.1.2.2.1 HI.1.2.2.2 rfl (by decide) _ _ csB (by rfl) HA2.1.2.1 _ 1 1 zeroE (by rfl) rfl HZ2.1 (by simp[zeroE,Value.oneCell']) (by decide) (by unfold maxLen;omega) (by omega) (by first|omega| (simp<;>omega)) _ rfl ?_;intro j cap w7 hown hgrow hat hlt;(have HPF:=S (X (HA2.1.1.pend rfl HA2.1.2.1 HA2.1.2.2.1 hown hgrow hat) (HA2.1.2.2.2.1.gb hgrow (λq hq=>(HA2.1.1.belowX q hq).1))));(have HVF:=S (JT (f:=(Fo.one x)) (cap:=cap) HA2.1.2.2.2.2.1 HA2.1.2.2.2.2.2 (λq hq _=>hq) HFr.1 hgrow hat));(have f7:=(HA2.1.1.blk.gb hgrow HA2.1.1.neX).frozen 4);(have d7:=(HA2.1.1.blk.gb hgrow HA2.1.1.neX).cell' 4 rfl);(have l7:=HPF.1.1.lt);(have bj7:=HPF.1.1.bj);(have nj7:=HPF.1.1.neL);(have fe7:=λi=>HPF.1.1.frozenE i);(obtain⟨u70,e70⟩:=HPF.1.1.cellE 0 (by decide));(obtain⟨u71,e71⟩:=HPF.1.1.cellE 1 (by decide));(obtain⟨u72,e72⟩:=HPF.1.1.cellE 2 (by decide));(obtain⟨u73,e73⟩:=HPF.1.1.cellE 3 (by decide));(obtain⟨u74,e74⟩:=HPF.1.1.cellE 4 (by decide));(obtain⟨u75,e75⟩:=HPF.1.1.cellE 5 (by decide));(obtain⟨u76,e76⟩:=HPF.1.1.cellE 6 (by decide));(try simp only[Nat.add_zero]at e70);clear hown hgrow hat)
     | (refine step_append_lies _ (by rfl) _ _ 129 (by rfl) ((w).heap.size+1) 163 i0 _ 7 104 underlying129 HI.1.1 HI.1.2.1 HI.1.2.2.1 HI.1.2.2.2 rfl (by decide) _ _ csA (by rfl) HA1.1.2.1 ⟨(w7).heap.size,0,none⟩ 1 1 zeroE (by rfl) rfl (AP _ _ _) (by simp[zeroE,Value.oneCell']) (by decide) (by unfold maxLen;omega) (by omega) (by first|omega| (simp<;>omega)) _ rfl ?_;intro j cap w7 hown hgrow hat hlt;(have HP1:=S (X (HA1.1.1.pend rfl HA1.1.2.1 HA1.1.2.2.1 hown hgrow hat) (HA1.1.2.2.2.gb hgrow (λq hq=>(HA1.1.1.belowX q hq).1))));(have f7:=(HA1.1.1.blk.gb hgrow HA1.1.1.neX).frozen 4);(have d7:=(HA1.1.1.blk.gb hgrow HA1.1.1.neX).cell' 4 rfl);(have l7:=HP1.1.1.lt);(have s7:=hgrow.size);(have bj7:=HP1.1.1.bj);clear hown hgrow hat)
     | (go_simp;go_at_call 208;refine(HE.1 _ _ HP1.1.2 (by rw[hr6];simp)).mono ?_;rintro e w8 hq6;rw[hr6]at hq6;obtain⟨g8,v,rfl,⟨pa6,pc6,la6,lc6,rfl,q1,q2⟩,h8⟩:=hq6;(have hKP:=HP1.1.1.gb g8);(have HPF:=S (X hKP h8));(have HVF:=S (X (q1.mono (λq hq _=>HP1.1.1.fresh q hq)) (q2.mono (λq hq _=>HP1.1.1.fresh q hq))));(have f8:=hKP.blk.frozen 4);(have d8:=hKP.blk.cell' 4 rfl);(have l8:=hKP.lt);(have bj8:=hKP.bj);(have nj8:=hKP.neL);(have fe8:=λi=>HPF.1.1.frozenE i);(obtain⟨u70,e70⟩:=HPF.1.1.cellE 0 (by decide));(obtain⟨u71,e71⟩:=HPF.1.1.cellE 1 (by decide));(obtain⟨u72,e72⟩:=HPF.1.1.cellE 2 (by decide));(obtain⟨u73,e73⟩:=HPF.1.1.cellE 3 (by decide));(obtain⟨u74,e74⟩:=HPF.1.1.cellE 4 (by decide));(obtain⟨u75,e75⟩:=HPF.1.1.cellE 5 (by decide));(obtain⟨u76,e76⟩:=HPF.1.1.cellE 6 (by decide));(try simp only[Nat.add_zero]at e70);clear hKP q1 q2 g8 h8)
     | (go_simp;go_at_call 208;refine(HE.1 _ _ (HP1.1.2.gb (Ai (Aa w7 (some L)) 4 (.slice (some ⟨j,0,none⟩) (((Fo.one x)).len+1) cap)) (by intro q e;cases e;omega)) (by rw[hr6];simp)).mono ?_;rintro e w8 hq6;rw[hr6]at hq6;obtain⟨g8,v,rfl,⟨pa6,pc6,la6,lc6,rfl,q1,q2⟩,h8⟩:=hq6;(have hKP:=(HP1.1.1.put4 (.slice (some ⟨j,0,none⟩) (((Fo.one x)).len+1) cap)).gb g8);(have HPF:=S (X hKP h8));(have HVF:=S (X (q1.mono (λq hq _=>(HP1.1.1.put4 (.slice (some ⟨j,0,none⟩) (((Fo.one x)).len+1) cap)).fresh q hq)) (q2.mono (λq hq _=>(HP1.1.1.put4 (.slice (some ⟨j,0,none⟩) (((Fo.one x)).len+1) cap)).fresh q hq))));(have bj8:=hKP.bj);(have nj8:=hKP.neL);(have l8:=hKP.lt);(have fe8:=λi=>HPF.1.1.frozenE i);(obtain⟨u70,e70⟩:=HPF.1.1.cellE 0 (by decide));(obtain⟨u71,e71⟩:=HPF.1.1.cellE 1 (by decide));(obtain⟨u72,e72⟩:=HPF.1.1.cellE 2 (by decide));(obtain⟨u73,e73⟩:=HPF.1.1.cellE 3 (by decide));(obtain⟨u74,e74⟩:=HPF.1.1.cellE 4 (by decide));(obtain⟨u75,e75⟩:=HPF.1.1.cellE 5 (by decide));(obtain⟨u76,e76⟩:=HPF.1.1.cellE 6 (by decide));(try simp only[Nat.add_zero]at e70);clear hKP q1 q2 g8 h8)
     | (go_simp;go_at_call 208;refine(HE.1 _ _ (hp.drewN 1) (by rw[hr6];simp)).mono ?_;rintro e w6 hq6;rw[hr6]at hq6;obtain⟨g6,v,rfl,⟨pa6,pc6,la6,lc6,rfl,q1,q2⟩,h6⟩:=hq6;(have k6:=HK.1.gb (Z (Ad (Aa _ _)) g6));(have l6:=k6.lt);(have s6:=g6.size);(have d6:=k6.blk.cell' 4 rfl);(have k7:=k6.alloc (.cells zeroE.toArray 163 (0,0)));(obtain⟨csB,ho6,hr7⟩:=k7.x);(have gA:=gZ w6 (.cells zeroE.toArray 163 (0,0)) none);(have HA2:=S (X k7 (X ho6 (X hr7 (X (h6.alloc (.cells zeroE.toArray 163 (0,0))) (X (q1.gb gA (by simp)) (q2.gb gA (by simp))))))));(have HZ2:=S (AP w6 zeroE 163));clear k6 k7 ho6 hr7 gA q1 q2 h6 g6)
     | (go_simp;go_at_call 208;refine(HE.1 _ _ HA1.1.2.2.2 (by rw[hr6];simp)).mono ?_;rintro e w6 hq6;rw[hr6]at hq6;obtain⟨g6,v,rfl,⟨pa6,pc6,la6,lc6,rfl,q1,q2⟩,h6⟩:=hq6;(have k6:=HA1.1.1.gb g6);(have l6:=k6.lt);(have s6:=g6.size);(have d6:=k6.blk.cell' 4 rfl);(obtain⟨csB,ho6,hr7⟩:=k6.x);(have HA2:=S (X k6 (X ho6 (X hr7 (X h6 (X (q1.mono (ok':=An (w7).heap.size) (λq hq _=>Nat.le_of_succ_le (by simpa using hq))) (q2.mono (ok':=An (w7).heap.size) (λq hq _=>Nat.le_of_succ_le (by simpa using hq)))))))));(have HZ2:=S (show ∀i u,zeroE[i]? =some u->w6.cell? ((⟨(w7).heap.size,0,none⟩:Addr).add i)=some u from λi u hu=>KV (((Blk.new (World.drew w7) zeroE 163).gb g6 (by simp;omega)).cell' i hu)));clear k6 ho6 hr7 q1 q2 h6 g6))
    all_goals
     go_wp2_with fail;go_meet
     case rel=>
      show ∃xv' f j,KA b w L _ 13 wd [] [p] f .nil pv xv' (.slice none 0 0)/\Par _ b tv wo l wordsL j/\(Li hn wd p f).f j=R;have hE1:=HPF.1.1.endQ1 HPF.1.2 HVF.1.1 HVF.1.2;have hE2:=HPF.1.1.endQ2 HPF.1.2 HVF.1.1 HVF.1.2;simp only[D6]at hE1 hE2;have hq9:=HQ.1;first
      |exact⟨_,(Fo.one x).snoc y,j6,by with_reducible exact hE1.1,by with_reducible exact hE1.2,hq9⟩
      |exact⟨_,(Fo.one x).snoc y,j6,by with_reducible exact hE2.1,by with_reducible exact hE2.2,hq9⟩
 case rest=>
  obtain⟨xv',f,j7,hK,hp1,hq⟩:=hcut;replace HK:=S hK;replace hp:=hp1;have e0:=hq;unfold Li at e0;rw[Rd.here_f]at e0;replace HQ:=S e0;have HI:=S (λh=>CX (l:=l) (W:=wordsL) (i:=j7) h);clear hK hp1 hq e0;have HA:=S (Bj hp);go_wp2_with fail;refine mR HA.1 λw8 g8=>?_;replace HK:=S (HK.1.gb (Ao g8));replace hp:=hp.gbN g8;clear g8 HA;go_wp2_with fail;refine mR (Fl hp HTk.1 j7) λw9 g9=>?_;replace HK:=S (HK.1.gb (Ao g9));replace hp:=hp.gbN g9;clear g9;generalize As l wordsL j7=s at*;have hkl:=HK.1.lt;have hus:(s=Ic\/s=Ha)\/¬(s=Ic\/s=Ha):=Classical.em _;rcases hus with hus|hus
  ·have hi:=HI.1 (by rcases hus with rfl|rfl<;>decide);rw[if_pos hus,Rd.bind_f,Rd.skip_f,Rd.pure_f,Res.bind_ok]at HQ;rcases hus with rfl|rfl
   all_goals
    have c1:=hp.c1;have f1:=hp.f1;have hbl9:=hp.lt;have hfew9:=hp.few;have hgI:=Ai (Aa w9 (some b)) 1 (.int .i64 ((j7:Int)+1));have HPI:=S (hp.goI ((j7:Int)+1) (j7+1) (by omega) (by omega));have HKI:=S (HK.1.gb hgI);clear hgI;have d2:=HK.1.blk.cell' 2 rfl;have f2:=HK.1.blk.frozen 2;have HF:=S (λs2=>X (HKI.1.putT s2) (HPI.1.set (L:=L) hbL 2 (str s2)));clear HKI HPI;go_upto_region 10 with fail;refine Az (λW=>(∃t,t=_/\KA b w L W 13 wd t [p] f .nil pv xv' (.slice none 0 0))/\Par W b tv wo l wordsL (j7+1)) ⟨⟨_,rfl,(HF.1 _).1⟩,(HF.1 _).2⟩ ?_;rintro W3 ⟨⟨t,rfl,hK⟩,hp3⟩;replace HK:=S hK;replace hp:=hp3;clear hK hp3 HF d2 f2 c1 f1;rw[Rd.bind_f,Rd.ifw_f]at HQ;have hkl:=HK.1.lt;cases hw:As l wordsL (j7+1)==CP with
    | false=>
      go_wp2_with fail;refine mR (Dh hp HTk.1 CP hw) λw12 g=>?_;replace HK:=S (HK.1.gbN g);replace hp:=hp.gbN g;clear g;rw[if_neg (nF hw)]at HQ;clear hw;rw[Rd.pure_f,Res.bind_ok,Rd.pure_f]at HQ;replace HK:=S HK.1.toKS;go_wp2;go_end0;exact Post.ok HK.1.gr HQ.1.symm ⟨rfl,_,_,_,_,_,HK.1⟩ hp
    | true=>
      obtain⟨i0,hi0,hz0,hz1,hz2⟩:=info_parts Fp;have HI2:=S (X hi0 (X hz0 (X hz1 hz2)));clear hi0 hz0 hz1 hz2;go_wp2_with fail;refine(Dj hp HTk.1 CP (by decide) hw).mono ?_;rintro e w12 ⟨rfl,hp9,g⟩;replace HK:=S (HK.1.gb g);replace hp:=hp9;clear g hp9;rw[if_pos hw]at HQ;clear hw;rw[Rd.pure_f,Res.bind_ok,Rd.pure_f]at HQ;have hbL:=HK.1.bL;have hkl:=HK.1.lt;have hwL:=HK.1.wL;have d3:=HK.1.blk.cell' 3 rfl;have HB:=S (X (HK.1.alloc (.cells #[str CP] 9 (0,0))) (hp.alloc (.cells #[str CP] 9 (0,0))));clear HK;go_wp2_with (at_builtin;go_loud(refine wpList_append_lies _ rfl _ _ 37 rfl (w.heap.size+1) 9 i0 _ 1 16 underlying37 HI2.1.1 HI2.1.2.1 HI2.1.2.2.1 HI2.1.2.2.2 rfl (by decide) _ _ _ rfl HB.1.1.p ⟨w12.heap.size,0,none⟩ 1 1 [str CP] rfl rfl (EV _ _ _) (by simp[Value.oneCell']) (by decide) (by simp[maxLen]) (by simp) (by simp;omega) _ rfl ?_;intro j cap w13 hown hgrow hat hlt;(have HK8:=S (X (HB.1.1.addP' hown hgrow hat) (Par.app HB.1.2 hgrow (λq hq=>(HB.1.1.belowP q hq).1) hbL 3 (.slice (some ⟨j,0,none⟩) ([p].length+1) cap))));(have hb7:=HB.1.1.blk.gb hgrow HB.1.1.neP);(have f7:=hb7.frozen 3);(have d7:=hb7.cell' 3 rfl);(have l7:=hb7.lt);clear hown hgrow hat hb7 HB));go_end0;exact Post.ok HK8.1.1.toKS.gr HQ.1.symm ⟨rfl,_,_,_,_,_,HK8.1.1.toKS⟩ HK8.1.2
  ·have hs1:(s==[85,78,73,81,85,69])=false:=by have:s≠Ic:=λe=>hus (.inl e);simpa using this
   have hs2:(s==[67,65,78,68,73,68,65,84,69])=false:=by have:s≠Ha:=λe=>hus (.inr e);simpa using this
   rw[if_neg hus,Rd.bind_f,Rd.pure_f,Res.bind_ok,Rd.bind_f,Rd.ifw_f]at HQ;have hkl:=HK.1.lt;cases hw:As l wordsL j7==CP with
   | false=>
     go_wp2_with fail;refine mR (Dh hp HTk.1 CP hw) λw12 g=>?_;replace HK:=S (HK.1.gbN g);replace hp:=hp.gbN g;clear g;rw[if_neg (nF hw)]at HQ;clear hw;rw[Rd.pure_f,Res.bind_ok,Rd.pure_f]at HQ;replace HK:=S HK.1.toKS;go_wp2;go_end0;exact Post.ok HK.1.gr HQ.1.symm ⟨rfl,_,_,_,_,_,HK.1⟩ hp
   | true=>
     obtain⟨i0,hi0,hz0,hz1,hz2⟩:=info_parts Fp;have HI2:=S (X hi0 (X hz0 (X hz1 hz2)));clear hi0 hz0 hz1 hz2;go_wp2_with fail;refine(Dj hp HTk.1 CP (by decide) hw).mono ?_;rintro e w12 ⟨rfl,hp9,g⟩;replace HK:=S (HK.1.gb g);replace hp:=hp9;clear g hp9;rw[if_pos hw]at HQ;clear hw;rw[Rd.pure_f,Res.bind_ok,Rd.pure_f]at HQ;have hbL:=HK.1.bL;have hkl:=HK.1.lt;have hwL:=HK.1.wL;have d3:=HK.1.blk.cell' 3 rfl;have HB:=S (X (HK.1.alloc (.cells #[str CP] 9 (0,0))) (hp.alloc (.cells #[str CP] 9 (0,0))));clear HK;go_wp2_with (at_builtin;go_loud(refine wpList_append_lies _ rfl _ _ 37 rfl (w.heap.size+1) 9 i0 _ 1 16 underlying37 HI2.1.1 HI2.1.2.1 HI2.1.2.2.1 HI2.1.2.2.2 rfl (by decide) _ _ _ rfl HB.1.1.p ⟨w12.heap.size,0,none⟩ 1 1 [str CP] rfl rfl (EV _ _ _) (by simp[Value.oneCell']) (by decide) (by simp[maxLen]) (by simp) (by simp;omega) _ rfl ?_;intro j cap w13 hown hgrow hat hlt;(have HK8:=S (X (HB.1.1.addP' hown hgrow hat) (Par.app HB.1.2 hgrow (λq hq=>(HB.1.1.belowP q hq).1) hbL 3 (.slice (some ⟨j,0,none⟩) ([p].length+1) cap))));(have hb7:=HB.1.1.blk.gb hgrow HB.1.1.neP);(have f7:=hb7.frozen 3);(have d7:=hb7.cell' 3 rfl);(have l7:=hb7.lt);clear hown hgrow hat hb7 HB));go_end0;exact Post.ok HK8.1.1.toKS.gr HQ.1.symm ⟨rfl,_,_,_,_,_,HK8.1.1.toKS⟩ HK8.1.2
end
section
variable {l:List Tok}
def Gu(b:Nat)(tv wo:Value)(l:List Tok)(w:World)(L:Nat)(h:Sd)(i:Nat)(W:World):Prop:=
 (∃pv xv,KS b w L W h .nil pv xv (.slice none 0 0) (.slice none 0 0) (.slice none 0 0) (.slice none 0 0))/\Par W b tv wo l wordsL i
def Xe(hn:Al l)(hE:CE 208 b tv wo l wordsL (Ak l day n))(hok:∀i,At (Ab l i))(hl:A0 l)(k:KS b w L wr (sd0 13 wd) .nil (.slice none 0 0) (.slice none 0 0) (.slice none 0 0) (.slice none 0 0) (.slice none 0 0) (.slice none 0 0))(h:Par wr b tv wo l wordsL i)(ho:(Fr hn wordsL day n (sd0 13 wd)).f i ≠ .out):
 Calls Tryz.prog 354 #[.pointer (some ⟨b,0,none⟩),.pointer (some ⟨L,0,none⟩)] wr (Post b tv wo l wordsL w (VIn b w L) ((Fr hn wordsL day n (sd0 13 wd)).f i)):=by
 have hb:=h.lt;have HO:=S ho;generalize hR:(Fr hn wordsL day n (sd0 13 wd)).f i=R at*;unfold Fr at hR;rw[Rd.here_f]at hR;have HQ:=S hR;have HE:=S hE;have HTk:=S hok;have HSh:=S hl;have HK:=S k;have hp:=h;have HA:=S (Bj h);have HI:=S (λh=>CX (l:=l) (W:=wordsL) (i:=i) h);have hbL:b<L:=by have:=k.bw;have:=k.wL;omega
 clear hE hok hl h ho hR k;go_enter func354,ntmps354;go_wp2_with fail;refine mR HA.1 λw1 g1=>?_;replace HK:=S (HK.1.gbN g1);replace hp:=hp.gbN g1;clear g1 HA;go_wp2_with fail;refine mR (Fl hp HTk.1 i) λw2 g2=>?_;replace HK:=S (HK.1.gbN g2);replace hp:=hp.gbN g2;clear g2;generalize As l wordsL i=s at*;have hkl:=HK.1.lt;have d1:=HK.1.blk.cell' 1 rfl;have f1:=HK.1.blk.frozen 1;have HF:=S (X (HK.1.putS s) (hp.set hbL 1 (str s)));go_upto_region 3 with fail;refine Az (Gu b tv wo l w L {sd0 13 wd with s:=s} i) ⟨⟨_,_,HF.1.1⟩,HF.1.2⟩ ?_;rintro W1 ⟨⟨pv,xv,hK⟩,hp1⟩;replace HK:=S hK;replace hp:=hp1;clear hK hp1 HF d1 f1 hkl;have hkl:=HK.1.lt;by_cases h1:s=L4\/s=La
 ·have hi:=HI.1 (by rcases h1 with rfl|rfl<;>decide);rw[if_pos h1,Rd.skip_f,Rd.here_f]at HQ;have HI2:=S (λh=>CX (l:=l) (W:=wordsL) (i:=i+1) h);rcases h1 with rfl|rfl
  all_goals
   have c1:=hp.c1;have f1:=hp.f1;have hbl9:=hp.lt;have hfew9:=hp.few;have hgI:=Ai (Aa W1 (some b)) 1 (.int .i64 ((i:Int)+1));have HPI:=S (hp.goI ((i:Int)+1) (i+1) (by omega) (by omega));have HKI:=S (HK.1.gb hgI);clear hgI;go_upto_region 22 with fail;refine Az (Gu b tv wo l w L _ (i+1)) ⟨⟨_,_,HKI.1⟩,HPI.1⟩ ?_;rintro W2 ⟨⟨pv2,xv2,hK⟩,hp1⟩;replace HK:=S hK;replace hp:=hp1;clear hK hp1 HKI HPI c1 f1;have HA:=S (Bj hp);go_wp2_with fail;refine mR HA.1 λw3 g3=>?_;replace HK:=S (HK.1.gbN g3);replace hp:=hp.gbN g3;clear g3 HA;go_wp2_with fail;refine mR (Fl hp HTk.1 (i+1)) λw4 g4=>?_;replace HK:=S (HK.1.gbN g4);replace hp:=hp.gbN g4;clear g4;generalize As l wordsL (i+1)=t at*;have hkl:=HK.1.lt;have d2:=HK.1.blk.cell' 2 rfl;have f2:=HK.1.blk.frozen 2;have HF:=S (X (HK.1.putT t) (hp.set hbL 2 (str t)));go_upto_region 23 with fail;refine Az (Gu b tv wo l w L _ (i+1)) ⟨⟨_,_,HF.1.1⟩,HF.1.2⟩ ?_;rintro W3 ⟨⟨pv3,xv3,hK⟩,hp1⟩;replace HK:=S hK;replace hp:=hp1;clear hK hp1 HF d2 f2 hkl;have hkl:=HK.1.lt;have d2:=HK.1.blk.cell' 2 rfl;by_cases ht:t=wON\/t=wOFF
   ·have hi2:=HI2.1 (by rcases ht with rfl|rfl<;>decide);rw[if_pos ht,Rd.skip_f,Rd.pure_f]at HQ;rcases ht with rfl|rfl
    all_goals
     have c1:=hp.c1;have f1:=hp.f1;have hbl9:=hp.lt;have hfew9:=hp.few;have hgI:=Ai (Aa W3 (some b)) 1 (.int .i64 (((i+1):Int)+1));have HPI:=S (hp.goI (((i+1):Int)+1) ((i+1)+1) (by omega) (by omega));have HKI:=S (HK.1.gb hgI);clear hgI;go_wp2;go_end0;exact Post.ok HKI.1.gr HQ.1.symm ⟨rfl,_,_,_,_,_,HKI.1⟩ HPI.1
   ·skip;rw[if_neg ht,Rd.bad_f]at HQ;have hs1:(t !=[79,78])=true:=by have:t≠wON:=λe=>ht (.inl e);simpa using this
    have hs2:(t !=[79,70,70])=true:=by have:t≠wOFF:=λe=>ht (.inr e);simpa using this
    have hs3:(t==[79,78])=false:=by have:t≠wON:=λe=>ht (.inl e);simpa using this
    have hs4:(t==[79,70,70])=false:=by have:t≠wOFF:=λe=>ht (.inr e);simpa using this
    go_wp2_with fail;refine(DV hp.c1).mono ?_;rintro e w9 ⟨rfl,rfl⟩;exact⟨rfl,Post.bad HK.1.gr HQ.1.symm⟩
 ·skip;rw[if_neg h1]at HQ;by_cases h2:s=GJ\/s=Ib\/s=Hh
  ·have hi:=HI.1 (by rcases h2 with rfl|rfl|rfl<;>decide);rw[if_pos h2,Rd.skip_f,Rd.must_f]at HQ;rcases h2 with rfl|rfl|rfl
   ·skip;have c1:=hp.c1;have f1:=hp.f1;have hbl9:=hp.lt;have hfew9:=hp.few;have hgI:=Ai (Aa W1 (some b)) 1 (.int .i64 ((i:Int)+1));have HPI:=S (hp.goI ((i:Int)+1) (i+1) (by omega) (by omega));have HKI:=S (HK.1.gb hgI);clear hgI;go_upto_region 5 with fail;refine Az (Gu b tv wo l w L _ (i+1)) ⟨⟨_,_,HKI.1⟩,HPI.1⟩ ?_;rintro W2 ⟨⟨pv2,xv2,hK⟩,hp1⟩;replace HK:=S hK;replace hp:=hp1;clear hK hp1 HKI HPI c1 f1 hkl;have hkl:=HK.1.lt;go_wp2_with fail;refine(BK hp HTk.1 wTO (by decide)).mono ?_;intro e w3 hq;obtain⟨g,⟨q,hr,rfl⟩| ⟨u,i3,v,hr,rfl,rfl,hp9⟩⟩:=hq.split
    ·exact⟨rfl,Post.bad (Z HK.1.gr g) (by rw[<-HQ.1,hr];rfl)⟩
    replace HK:=S (HK.1.gb g);replace hp:=hp9;clear hp9;rw[hr,Res.bind_ok]at HQ;clear hr g;rw[Rd.cond_f]at HQ;have HA:=S (Bj hp);cases hk:(Ab l i3).kind==5 with
    | true=>
      have hk5:(Ab l i3).kind=5:=by simpa using hk
      rw[if_pos (show Rd.atEnd l i3=true from hk),Rd.pure_f]at HQ;clear hk;go_wp2_with fail;refine mR HA.1 λw4 g4=>?_;rw[AR,hk5];replace HK:=S (HK.1.gbN g4);replace hp:=hp.gbN g4;clear g4 HA;go_wp2;go_end0;exact Post.ok HK.1.gr HQ.1.symm ⟨rfl,_,_,_,_,_,HK.1⟩ hp
    | false=>
      have hk5:((Ab l i3).kind !=5)=true:=by simp only[bne,hk];rfl
      rw[if_neg (nF (show Rd.atEnd l i3=false from hk))]at HQ;have e0:=HQ.1;first|rw[if_pos True.intro]at e0|rw[if_pos (rfl:GJ=GJ)]at e0
      replace HQ:=S e0;clear e0;rw[Rd.name_f]at HQ;go_wp2_with fail;refine mR HA.1 λw4 g4=>?_;rw[AR];replace HK:=S (HK.1.gbN g4);replace hp:=hp.gbN g4;clear g4 HA;have hkl:=HK.1.lt;have hwL:=HK.1.wL;go_wp2_with fail;refine(B7 hp HSh.1).mono ?_;intro e w5 hq;obtain⟨g,⟨q,hr,rfl⟩| ⟨p,j5,v,hr,rfl,rfl,hp9⟩⟩:=hq.split
      ·exact⟨rfl,Post.bad (Z HK.1.gr g) (by rw[<-HQ.1,hr];rfl)⟩
      replace HK:=S (HK.1.gb g);replace hp:=hp9;clear hp9;rw[hr,Res.bind_ok]at HQ;clear hr g;have hkl3:=HK.1.lt;have d3:=HK.1.blk.cell' 3 rfl;have f3:=HK.1.blk.frozen 3;have hbL:b<L:=by have:=HK.1.bw;omega
      have hp3:=(hp.set (L:=L) hbL 3 (.slice (some ⟨(w5).heap.size,0,none⟩) 1 1)).alloc (.cells #[str p] 9 (0,0));replace HK:=S (HK.1.layP p);replace hp:=hp3;clear hp3;rw[Rd.pure_f]at HQ;go_wp2;go_end0;exact Post.ok HK.1.gr HQ.1.symm ⟨rfl,_,_,_,_,_,HK.1⟩ hp
   ·skip;have c1:=hp.c1;have f1:=hp.f1;have hbl9:=hp.lt;have hfew9:=hp.few;have hgI:=Ai (Aa W1 (some b)) 1 (.int .i64 ((i:Int)+1));have HPI:=S (hp.goI ((i:Int)+1) (i+1) (by omega) (by omega));have HKI:=S (HK.1.gb hgI);clear hgI;go_upto_region 10 with fail;refine Az (Gu b tv wo l w L _ (i+1)) ⟨⟨_,_,HKI.1⟩,HPI.1⟩ ?_;rintro W2 ⟨⟨pv2,xv2,hK⟩,hp1⟩;replace HK:=S hK;replace hp:=hp1;clear hK hp1 HKI HPI c1 f1 hkl;have hkl:=HK.1.lt;go_wp2_with fail;refine(BK hp HTk.1 wTO (by decide)).mono ?_;intro e w3 hq;obtain⟨g,⟨q,hr,rfl⟩| ⟨u,i3,v,hr,rfl,rfl,hp9⟩⟩:=hq.split
    ·exact⟨rfl,Post.bad (Z HK.1.gr g) (by rw[<-HQ.1,hr];rfl)⟩
    replace HK:=S (HK.1.gb g);replace hp:=hp9;clear hp9;rw[hr,Res.bind_ok]at HQ;clear hr g;have e0:(D2 l (Ak l day n) i3).bind (λf k=> .ok {sd0 13 wd with s:=Ib,x:=f} k)=R:=by
     rw[<-HQ.1];unfold D2;rw[Rd.cond_f];cases Rd.atEnd l i3 with
     |true=>rfl
     | false=>
       show Res.bind (Res.bind _ _) _=Res.bind _ _;rw[Res.bind_assoc];rfl
    replace HQ:=S e0;clear e0;have hkl:=HK.1.lt;have hwL:=HK.1.wL;go_wp2_with fail;refine(FQ HE.1 hp (λe=>HO.1 (by rw[<-HQ.1,e];rfl))).mono ?_;intro e w5 hq;obtain⟨g,⟨q,hr,rfl⟩| ⟨f,j5,v,hr,rfl,⟨fa,fc,rfl,hF⟩,hp9⟩⟩:=hq.split
    ·exact⟨rfl,Post.bad (Z HK.1.gr g) (by rw[<-HQ.1,hr];rfl)⟩
    replace HK:=S (HK.1.gb g);replace hp:=hp9;clear hp9;rw[hr,Res.bind_ok]at HQ;clear hr;have hkl5:=HK.1.lt;have hbw:=HK.1.bw;have hx4:=HK.1.blk.cell' 4 rfl;have hf4:=HK.1.blk.frozen 4;have hK6:=HK.1.putX (hF.mono (λq hq _=>by have h1:(w3).heap.size<=q:=hq;(try simp at h1);exact⟨by omega,by omega⟩));have hp6:=hp.set (L:=L) (by omega) 4 (.slice fa f.len fc);replace HK:=S hK6;replace hp:=hp6;clear hK6 hp6 hF g;go_wp2;go_end0;exact Post.ok HK.1.gr HQ.1.symm ⟨rfl,_,_,_,_,_,HK.1⟩ hp
   ·skip;have c1:=hp.c1;have f1:=hp.f1;have hbl9:=hp.lt;have hfew9:=hp.few;have hgI:=Ai (Aa W1 (some b)) 1 (.int .i64 ((i:Int)+1));have HPI:=S (hp.goI ((i:Int)+1) (i+1) (by omega) (by omega));have HKI:=S (HK.1.gb hgI);clear hgI;go_upto_region 14 with fail;refine Az (Gu b tv wo l w L _ (i+1)) ⟨⟨_,_,HKI.1⟩,HPI.1⟩ ?_;rintro W2 ⟨⟨pv2,xv2,hK⟩,hp1⟩;replace HK:=S hK;replace hp:=hp1;clear hK hp1 HKI HPI c1 f1 hkl;have hkl:=HK.1.lt;go_wp2_with fail;refine(BK hp HTk.1 wTO (by decide)).mono ?_;intro e w3 hq;obtain⟨g,⟨q,hr,rfl⟩| ⟨u,i3,v,hr,rfl,rfl,hp9⟩⟩:=hq.split
    ·exact⟨rfl,Post.bad (Z HK.1.gr g) (by rw[<-HQ.1,hr];rfl)⟩
    replace HK:=S (HK.1.gb g);replace hp:=hp9;clear hp9;rw[hr,Res.bind_ok]at HQ;clear hr g;have e0:(D2 l (Ak l day n) i3).bind (λf k=>if f.len=0 then .ok {sd0 13 wd with s:=Hh,x:=f} k else(GN l wordsL L9 k).bind λ_ k=>(AD l k).bind λp k=> .ok {sd0 13 wd with s:=Hh,x:=f,p:=[p]} k)=R:=by
     rw[<-HQ.1];unfold D2;rw[Rd.cond_f];cases Rd.atEnd l i3 with
     |true=>rfl
     | false=>
       show Res.bind (Res.bind _ _) _=Res.bind _ _;rw[Res.bind_assoc];rfl
    replace HQ:=S e0;clear e0;have hkl:=HK.1.lt;have hwL:=HK.1.wL;go_wp2_with fail;refine(FQ HE.1 hp (λe=>HO.1 (by rw[<-HQ.1,e];rfl))).mono ?_;intro e w5 hq;obtain⟨g,⟨q,hr,rfl⟩| ⟨f,j5,v,hr,rfl,⟨fa,fc,rfl,hF⟩,hp9⟩⟩:=hq.split
    ·exact⟨rfl,Post.bad (Z HK.1.gr g) (by rw[<-HQ.1,hr];rfl)⟩
    replace HK:=S (HK.1.gb g);replace hp:=hp9;clear hp9;rw[hr,Res.bind_ok]at HQ;clear hr;have hkl5:=HK.1.lt;have hbw:=HK.1.bw;have hx4:=HK.1.blk.cell' 4 rfl;have hf4:=HK.1.blk.frozen 4;have hK6:=HK.1.putX (hF.mono (λq hq _=>by have h1:(w3).heap.size<=q:=hq;(try simp at h1);exact⟨by omega,by omega⟩));have hp6:=hp.set (L:=L) (by omega) 4 (.slice fa f.len fc);replace HK:=S hK6;replace hp:=hp6;clear hK6 hp6 hF g;go_upto_region 16 with fail;refine Az (Gu b tv wo l w L _ j5) ⟨⟨_,_,HK.1⟩,hp⟩ ?_;rintro W5 ⟨⟨pv5,xv5,hK⟩,hp1⟩;replace HK:=S hK;replace hp:=hp1;clear hK hp1 hx4 hf4 hkl5;obtain⟨xa5,xc5,e5⟩:∃xa xc,xv5= .slice xa f.len xc:=by
     obtain⟨_,⟨xa,xc,e,_⟩,_⟩:=HK.1.x;exact⟨xa,xc,e⟩
    subst e5;have hkl:=HK.1.lt;have hx4:=HK.1.blk.cell' 4 rfl;by_cases hf:f.len=0
    ·have hf1:decide ((0:Int)<(f.len:Int))=false:=by simp;omega
     have hf2:decide (0<f.len)=false:=by simp;omega
     rw[if_pos hf]at HQ;have hx0:W5.cell? ⟨L,4,none⟩=some (.slice xa5 0 xc5):=by rw[<-hf];exact hx4
     clear hx4;go_wp2;go_end0;exact Post.ok HK.1.gr HQ.1.symm ⟨rfl,_,_,_,_,_,HK.1⟩ hp
    ·have hf1:decide ((0:Int)<(f.len:Int))=true:=by simp;omega
     have hf2:decide (0<f.len)=true:=by simp;omega
     rw[if_neg hf]at HQ;go_wp2_with fail;refine(BK hp HTk.1 L9 (by decide)).mono ?_;intro e w6 hq;obtain⟨g,⟨q,hr,rfl⟩| ⟨u,i6,v,hr,rfl,rfl,hp9⟩⟩:=hq.split
     ·exact⟨rfl,Post.bad (Z HK.1.gr g) (by rw[<-HQ.1,hr];rfl)⟩
     replace HK:=S (HK.1.gb g);replace hp:=hp9;clear hp9;rw[hr,Res.bind_ok]at HQ;clear hr g hx4;have hkl:=HK.1.lt;have hwL:=HK.1.wL;go_wp2_with fail;refine(B7 hp HSh.1).mono ?_;intro e w7 hq;obtain⟨g,⟨q,hr,rfl⟩| ⟨p,j7,v,hr,rfl,rfl,hp9⟩⟩:=hq.split
     ·exact⟨rfl,Post.bad (Z HK.1.gr g) (by rw[<-HQ.1,hr];rfl)⟩
     replace HK:=S (HK.1.gb g);replace hp:=hp9;clear hp9;rw[hr,Res.bind_ok]at HQ;clear hr g;have hkl3:=HK.1.lt;have d3:=HK.1.blk.cell' 3 rfl;have f3:=HK.1.blk.frozen 3;have hbL:b<L:=by have:=HK.1.bw;omega
     have hp3:=(hp.set (L:=L) hbL 3 (.slice (some ⟨(w7).heap.size,0,none⟩) 1 1)).alloc (.cells #[str p] 9 (0,0));replace HK:=S (HK.1.layP p);replace hp:=hp3;clear hp3;go_wp2;go_end0;exact Post.ok HK.1.gr HQ.1.symm ⟨rfl,_,_,_,_,_,HK.1⟩ hp
  ·skip;rw[if_neg h2,Rd.bad_f]at HQ;have hs1:(s==[79,82,68,69,82])=false:=by have:s≠GJ:=λe=>h2 (.inl e);simpa using this
   have hs2:(s==[70,73,76,84,69,82])=false:=by have:s≠Ib:=λe=>h2 (.inr (.inl e));simpa using this
   have hs3:(s==[82,69,76,65,84,73,79,78])=false:=by have:s≠Hh:=λe=>h2 (.inr (.inr e));simpa using this
   have hs4:(s==[69,88,65,67,84])=false:=by have:s≠L4:=λe=>h1 (.inl e);simpa using this
   have hs5:(s==[68,69,76,69,84,69,68])=false:=by have:s≠La:=λe=>h1 (.inr e);simpa using this
   go_wp2_with fail;refine(DV hp.c1).mono ?_;rintro e w9 ⟨rfl,rfl⟩;exact⟨rfl,Post.bad HK.1.gr HQ.1.symm⟩
end
def O3:(Tryz.prog.info? 40).map (λi=>(i.zero,i.size,i.bytes))=some (some (.agg #[str [],.bool false,.slice none 0 0,.slice none 0 0]),4,72):=by kernel_rfl
def AB(q:Pq):Pd:=⟨q.1,q.2.1,q.2.2.1,q.2.2.2⟩
def RepP.mono{ok ok':Nat->Prop}(hk:∀k,ok k->k<w.heap.size->ok' k):∀{l:List Pd}{cs:List Value},RepP ok w l cs->RepP ok' w l cs:=by
 intro l;induction l with
 |nil=>intro cs h;exact h
 | cons a s ih=>
   rintro cs ⟨pa,ba,pc,bc,rest,e,h1,h2,h3⟩;exact⟨pa,ba,pc,bc,rest,e,h1.mono hk,RepV.mono' h2 hk,ih h3⟩
def RepP.app{ok:Nat->Prop}:∀{l m:List Pd}{cs ds:List Value},RepP ok w l cs->RepP ok w m ds->RepP ok w (l++m) (cs++ds):=by
 intro l;induction l with
 |nil=>intro m cs ds h1 h2;cases h1;exact h2
 | cons a s ih=>
   rintro m cs ds ⟨pa,ba,pc,bc,rest,rfl,h1,h2,h3⟩ h4;exact⟨pa,ba,pc,bc,rest++ds,by simp,h1,h2,ih h3 h4⟩
def OwnP(w:World)(B:Nat)(v:Value)(a:List Pq):Prop:=∃cs,w.ownsRow B 40 4 v a.length cs/\RepP (λq=>B<=q/\v.ownBlock≠some q) w (a.map AB) cs
def OwnP.gb(h:OwnP w B v a)(g:w.grownBy w1 r)(hk:∀k,B<=k->k<w.heap.size->some k≠r):OwnP w1 B v a:=by
 obtain⟨cs,h1,h2⟩:=h;exact⟨cs,Cs h1 g hk,h2.gb g λk hk1 hk2=>hk k hk1.1 hk2⟩
def OwnP.rep(h:OwnP w B v a):RepQ (An B) w v (a.map AB):=by
 obtain⟨cs,h1,h2⟩:=h;refine⟨cs,?_,RepP.mono (λk hk _=>hk.1) h2⟩;rw[List.length_map];exact C0 h1
def OwnP.fresh(h:OwnP w B v a)(hB:B<=w.heap.size)(q:Nat)(hq:w.heap.size<=q):B<=q/\v.ownBlock≠some q:=by
 obtain⟨cs,h1,_⟩:=h;exact⟨by omega,λe=>by have:=(h1.lt q e).2;omega⟩
def OwnP.one{m:Nat}(hm:m=w.heap.size)(hB:B<=w.heap.size)
 (k1:Cells w (.slice pa q.2.2.1.length pc) 1 q.2.2.1.length (q.2.2.1.map str) (An B)) (k2:RepV (An B) w false (.slice ba q.2.2.2.len bc) q.2.2.2):
 OwnP (w.alloc (.cells (pdC (AB q) (.slice pa q.2.2.1.length pc) (.slice ba q.2.2.2.len bc)).toArray 40 (0,0))) B (.slice (some ⟨m,0,none⟩) 1 1) [q]:=by
 refine⟨_,G1 hm hB rfl (by decide),?_⟩;have hR:RepP (λp=>B<=p/\p<w.heap.size) w [AB q] (pdC (AB q) (.slice pa q.2.2.1.length pc) (.slice ba q.2.2.2.len bc)):=
  ⟨pa,ba,pc,bc,[],by simp[AB],k1.mono (λp h1 h2=>⟨h1,h2⟩),RepV.mono' k2 (λp h1 h2=>⟨h1,h2⟩),rfl⟩
 refine RepP.mono (λp h1 _=>⟨h1.1,λe=>?_⟩) (hR.gb (gZ w _ none) (by simp));have e':m=p:=by simpa[Value.ownBlock]using e
 omega
def OwnP.snoc{cap:Nat}{cs:List Value}(h1:w.ownsRow B 40 4 v a.length cs)(h2:RepP (λq=>B<=q/\v.ownBlock≠some q) w (a.map AB) cs)
    {okx:Nat->Prop} (k1:Cells w (.slice pa q.2.2.1.length pc) 1 q.2.2.1.length (q.2.2.1.map str) okx) (k2:RepV okx w false (.slice ba q.2.2.2.len bc) q.2.2.2) (hok:∀p,okx p->p<w.heap.size->B<=p/\v.ownBlock≠some p)
 (ho:w1.ownsRow B 40 4 (.slice (some ⟨j,0,none⟩) (a.length+1) cap) (a.length+1) (cs++pdC (AB q) (.slice pa q.2.2.1.length pc) (.slice ba q.2.2.2.len bc))) (hg:w.grownBy w1 v.ownBlock) (hat:v.ownBlock=some j\/j=w.heap.size):
 OwnP w1 B (.slice (some ⟨j,0,none⟩) (a.length+1) cap) (a++[q]):=by
 have hfr:∀p,(B<=p/\v.ownBlock≠some p)->p<w.heap.size->(B<=p/\(Value.slice (some ⟨j,0,none⟩) (a.length+1) cap).ownBlock≠some p)/\some p≠v.ownBlock:=λp hq hl=>⟨⟨hq.1,λe=>by(rcases FR hat e with h|h;exact hq.2 h;omega)⟩,λe=>hq.2 e.symm⟩;have hT:RepP (λp=>B<=p/\v.ownBlock≠some p) w ((a++[q]).map AB) (cs++pdC (AB q) (.slice pa q.2.2.1.length pc) (.slice ba q.2.2.2.len bc)):=by
  rw[List.map_append];exact h2.app ⟨pa,ba,pc,bc,[],by simp[AB],k1.mono hok,RepV.mono' k2 hok,rfl⟩
 exact⟨_,by rw[lA];exact ho,RepP.mono (λp hq _=>hq.1) ((RepP.mono hfr hT).gb hg (λp hq _=>hq.2))⟩
abbrev VPr(w:World):World->Value->List Pq->Prop:=λw' v a=>RepQ (An w.heap.size) w' v (a.map AB)
def OwnX(w:World)(B H:Nat)(v:Value)(a:List Pq):Prop:=∃cs,w.ownsRow B 40 4 v a.length cs/\v.ownBlock≠some H/\RepP (λq=>(B<=q/\v.ownBlock≠some q)/\q≠H) w (a.map AB) cs
def OwnP.x(h:OwnP w B v a)(hH:H=w.heap.size):OwnX w B H v a:=by
 obtain⟨cs,h1,h2⟩:=h;exact⟨cs,h1,λe=>by have:=(h1.lt H e).2;omega,RepP.mono (λq hq hl=>⟨hq,by omega⟩) h2⟩
def OwnX.gb(h:OwnX w B H v a)(g:w.grownBy w1 r)(hk:∀k,B<=k->k<w.heap.size->k≠H->some k≠r):OwnX w1 B H v a:=by
 obtain⟨cs,h1,h2,h3⟩:=h;refine⟨cs,World.ownsRow.kept h1 g ?_,h2,h3.gb g λk hk1 hk2=>hk k hk1.1.1 hk2 hk1.2⟩;cases e:v.ownBlock with
 |none=>exact .inl rfl
 |some k=>exact .inr (hk k (h1.lt k e).1 (h1.lt k e).2 (λe'=>h2 (by rw[e,e'])))
def OwnX.back(h:OwnX w B H v a):OwnP w B v a:=by
 obtain⟨cs,h1,_,h3⟩:=h;exact⟨cs,h1,RepP.mono (λq hq _=>hq.1) h3⟩
open Go.Lib
def C4:List (Hd×Bs)->Nat
 | []=>0
 |x::r=>x.2.length+4+C4 r
def Wj:∀l:List (Hd×Bs),(((l.map (·.2)).map λs=>[44,32]++s).flatten).length<=C4 l:=by
 intro l;induction l with
 |nil=>simp[C4]
 | cons x r ih=>
   simp only[List.map_cons,List.flatten_cons,lA,List.length_cons,List.length_nil,C4];omega
def Kq(l:List (Hd×Bs)):(CB (l.map (·.2))).length<=C4 l:=by
 cases l with
 |nil=>simp[CB,C4]
 | cons x r=>
   have:=Wj r;simp only[List.map_cons,CB,lA,C4];omega
def LX{p:List Bs}(h:p.all Ay=true):(CB p).length<=12*p.length:=by
 have hl:∀s∈p,s.length<=10:=by
  intro s hs;have:=List.all_eq_true.1 h s hs;unfold Ay at this;simp only[Bool.and_eq_true,decide_eq_true_eq]at this;exact this.1.1.2
 clear h;have hf:∀r:List Bs,(∀s∈r,s.length<=10)->((r.map λs=>[44,32]++s).flatten).length<=12*r.length:=by
  intro r;induction r with
  |nil=>intro _;simp
  | cons x r ih=>
    intro h;have h1:=ih (λs hs=>h s (List.mem_cons_of_mem _ hs));have h2:=h x (List.mem_cons_self);simp only[List.map_cons,List.flatten_cons,lA,List.length_cons,List.length_nil];omega
 cases p with
 |nil=>simp[CB]
 | cons x r=>
   have h1:=hf r (λs hs=>hl s (List.mem_cons_of_mem _ hs));have h2:=hl x (List.mem_cons_self);simp only[CB,lA,List.length_cons];omega
def Nr{n:Int}(h0:0<n)(h1:n<=3652059):(Dy n).length=8:=by
 obtain⟨a,b,c,d,e,f,g⟩:=KD h0 h1;have hm:=Oe (Ba n).1 (Ba n).2.1;unfold Dy;have l1:=EK (k:=4) (u:=(Ba n).1) (by omega) (by omega);have l2:=EK (k:=2) (u:=(Ba n).2.1) (by omega) (by omega);have l3:=EK (k:=2) (u:=(Ba n).2.2) (by omega) (by omega);rw[lA,lA,l1,l2,l3]
def Sn(hf:h.fit)(hc:A9 h=true):(Ie wdM h).length<=2000010:=by
 have hv:=hf.2.1;unfold A9 at hc;unfold Ie;split
 ·split<;>simp
 split
 ·rename_i h1 h2;rw[if_neg (by omega),if_neg h1,if_pos h2]at hc;simp at hc;have:=(wdM_ok.nums h.vn hc.1.1 hc.1.2).1;omega
 split
 ·rename_i h1 h2 h3;rw[if_neg (by omega),if_neg h1,if_neg h2,if_pos h3]at hc;simp at hc;split
  ·simp
  ·rename_i h4;have:=Nr (n:=h.vn) (by omega) (by omega);show(IV (Dy h.vn)).length<=_;unfold IV;simp only[lA,List.length_take,List.length_drop,List.length_cons,List.length_nil];omega
 split
 ·split
  ·simp only[lA,List.length_cons,List.length_nil];omega
  ·simp only[lA,List.length_cons,List.length_nil];omega
 ·simp
def Uy(hf:h.fit)(hp:h.op=8->h.p.all Ay=true)(hc:h.op=0->A9 h=true)(hk:∀x∈ks,x.1.s.length<=2000000):(Ct wdM h ks).length<=30000000+C4 ks:=by
 have hs:=hf.1;have hp2:=hf.2.2.1;have hj:=Kq ks;have ho:∀x:Hd×Bs,(opT x).length<=x.2.length+2:=by
  intro x;unfold opT;split<;>simp
 unfold Ct;split
 ·rename_i h0;have:=Sn hf (hc h0);omega
 split
 ·cases ks with
  |nil=>simp
  | cons x r=>
    have:=hk x List.mem_cons_self;simp only[C4];split<;>simp only[lA,List.length_cons,List.length_nil]<;>omega
 split
 ·simp only[lA,List.length_cons,List.length_nil];omega
 split
 ·cases ks with
  |nil=>simp
  | cons x r=>
    have:=ho x;simp only[C4];split<;>simp only[lA,List.length_cons,List.length_nil]<;>omega
 split
 ·match ks with
  | []=>simp
  | [_]=>simp
  | x::y::r=>
    have:=ho x;have:=ho y;simp only[C4,lA,List.length_cons,List.length_nil];omega
 split
 ·match ks with
  | []=>simp
  | [_]=>simp
  | x::y::r=>
    have:=ho x;simp only[C4,lA,List.length_cons,List.length_nil];omega
 split
 ·simp only[lA,List.length_cons,List.length_nil];omega
 split
 ·rename_i h8;have:=LX (hp h8);cases ks with
  |nil=>simp
  | cons x r=>
    simp only[C4,lA,List.length_cons,List.length_nil];omega
 split
 ·split
  ·simp only[lA,List.length_cons,List.length_nil];omega
  ·cases ks with
   |nil=>simp
   | cons x r=>
     simp only[C4,lA,List.length_cons,List.length_nil];omega
 split
 ·simp only[lA,List.length_cons,List.length_nil];omega
 ·omega
def KJ(hf:h.fit)(ho:BZ h n=true)(hk:∀x∈ks,x.1.s.length<=2000000):(Ct wdM h ks).length<=30000000+C4 ks:=by
 obtain⟨_,_,h3⟩:=MD ho;unfold A1 at h3;refine Uy hf (λh8=>?_) (λh0=>?_) hk
 ·rw[if_neg (by omega),if_neg (by omega),if_neg (by omega),if_neg (by omega),if_neg (by omega),if_neg (by omega),if_neg (by omega),if_neg (by omega),if_pos h8]at h3;simp only[Bool.and_eq_true]at h3;exact h3.2
 ·rw[if_pos h0]at h3;simp only[Bool.and_eq_true]at h3;exact h3.2
def Jt:∀f:Fo,okF f=true->f.fit->C4 (AX wdM f)<=30000004*f.nodes/\∀x∈AX wdM f,x.1.s.length<=2000000:=by
 intro f;induction f with
 |nil=>intro _ _;simp[AX,C4]
 | cons h k n ihk ihn=>
   intro ho hf;simp only[okF,Bool.and_eq_true]at ho;obtain⟨k1,k2⟩:=ihk ho.1.2 hf.2.1;obtain⟨n1,n2⟩:=ihn ho.2 hf.2.2;have:=KJ hf.1 ho.1.1 k2;constructor
   ·simp only[AX,C4,Fo.nodes];omega
   ·intro x hx;simp only[AX,List.mem_cons]at hx;rcases hx with rfl|hx
    ·exact hf.1.1
    ·exact n2 x hx
def Bc(c:Nat):Nat:=if 48<=c/\c<=57 then c-48 else if 97<=c ||| 32/\c ||| 32<=122 then(c ||| 32)-87 else 99
def BE(s:Bs)(k:Nat):Nat:=match k with
 | 0=>0
 | 1=>Bc (bAt s 0).toNat
 |_=>16*Bc (bAt s 0).toNat+Bc (bAt s 1).toNat
def Zs(c:UInt8):bits .or .u8 (c.toNat:Int) 32=((c.toNat ||| 32:Nat):Int):=by
 have h:∀n:Fin 256,bits .or .u8 ((n.val:Nat):Int) 32=((n.val ||| 32:Nat):Int):=by decide+kernel
 exact h ⟨c.toNat,c.toNat_lt⟩
def lowB(c:UInt8)(w:World):Calls Tryz.prog 194 #[.int .u8 (c.toNat:Int)] w λe w'=>e= .returned (.int .u8 ((c.toNat ||| 32:Nat):Int))/\w=w':=
 (internal_strconv_lower _ w).mono λe w' h=>⟨by rw[h.1,Zs],h.2.symm⟩
def WX(s:Bs)(hs:s.length=2)(w:World):
 Calls Tryz.prog 145 #[str s,.int .i64 16,.int .i64 8] w λe w'=>w.grownBy w' none/\
  (((∀j,j<2->Bc (bAt s j).toNat<16)/\e= .returned (.tuple #[.int .u64 (BE s 2),.nilIface]))\/
   ((∃j,j<2/\¬Bc (bAt s j).toNat<16)/\e= .returned (.tuple #[.int .u64 0,.iface 139 (.int .i64 2)]))):=by
 have hconv:=run_bytes_of_string (P:=Tryz.prog) w 9 84 5 ⟨s.toArray⟩ underlying9 underlying84 underlying5;have hsz:(⟨s.toArray⟩:ByteArray).size=s.length:=by simp[ByteArray.size]
 have hne:List.isEmpty s=false:=by
  cases s with
  |nil=>simp at hs
  |cons=>rfl
 rw[hsz]at hconv;generalize hcap:grownCap w s.length 0 5=cap at*;have H0:=S (X (BytR.new w s cap) (Ac (Ad (Aa w none)) (.cells (bytesRow ⟨s.toArray⟩ cap) 5 ((bytesRow ⟨s.toArray⟩ cap).size,(bytesRow ⟨s.toArray⟩ cap).size+1))));clear hsz hcap;generalize(w.drew.alloc (.cells (bytesRow ⟨s.toArray⟩ cap) 5 ((bytesRow ⟨s.toArray⟩ cap).size,(bytesRow ⟨s.toArray⟩ cap).size+1)))=W at*;go_enter func145,ntmps145;go_wp2_with fail;go_loopg [12,13,15,16,17,101] 2 (λg v12 v13 v15 v16 v17 v101 wr=>∃k:Nat,k+g=2/\v12= .bool false/\v101= .int .i64 k/\v13= .int .u64 (BE s k)/\(∀j,j<k->Bc (bAt s j).toNat<16)/\W=wr)
 case atStart=>exact⟨0,by omega,rfl,rfl,rfl,λj h=>absurd h (by omega),rfl⟩
 case round=>
  obtain⟨k,hk,rfl,rfl,rfl,hd,rfl⟩:=hrel;clear hconv;have HD:=S hd;clear hd;cases gk with
  | zero=>
    have hkl:k=2:=by omega
    subst hkl;have hj1:decide (2<s.length)=false:=by simp;omega
    go_wp2;go_ret2;exact⟨H0.1.2,.inl ⟨HD.1,rfl⟩⟩
  | succ gk=>
    have hkl:k<s.length:=by omega
    have hj1:decide (k<s.length)=true:=by simp;omega
    have ck:=H0.1.1.cell k hkl;have hlt:=H0.1.1.lt;have hb:=(bAt s k).toNat_lt;by_cases hdig:48<=(bAt s k).toNat/\(bAt s k).toNat<=57
    ·have hx:=hdig.1;have hy:=hdig.2;clear hdig;have HS:=S hs;have HK:=S hk;have hk2:k<2:=by omega
     have HX:=S (show Bc (bAt s k).toNat=(bAt s k).toNat-48 by unfold Bc;rw[if_pos ⟨hx,hy⟩]);have HJ:=S (show ∀j,j=k->Bc (bAt s j).toNat<16 by intro j e;subst e;unfold Bc;rw[if_pos ⟨hx,hy⟩];omega);clear hs hk hne;have hn15:BE s k<=15:=by
      have hk1:k=0\/k=1:=by have:=HK.1;omega
      rcases hk1 with rfl|rfl
      ·simp[BE]
      ·have:=HD.1 0 (by omega);simp only[BE];omega
     have HN:=S (show BE s (k+1)=16*BE s k+Bc (bAt s k).toNat by
      have hk1:k=0\/k=1:=by have:=HK.1;omega
      rcases hk1 with rfl|rfl
      ·simp[BE]
      ·simp[BE])
     generalize hpn:BE s k=n at*;clear hpn;go_upto_region 38 with fail;generalize(bAt s k).toNat=c at*;go_upto_region 42 with fail;obtain⟨d,rfl⟩:∃d:Nat,c=48+d:=⟨c-48,by omega⟩;have hd9:d<=9:=by omega
     clear hx hy hb;have h1:decide ((48:Int)<=((48+d:Nat):Int))=true:=by simp;omega
     have h2:decide (((48+d:Nat):Int)<=57)=true:=by simp;omega
     have h3:IntKind.u8.wrap (((48+d:Nat):Int)-48)=(d:Int):=by
      rw[show((48+d:Nat):Int)-48=(d:Int)by omega];rw[IntKind.wrap_u8];omega
     go_upto_region 46 with fail;go_upto_region 48 with fail;have h4:decide ((1152921504606846976:Int)<=(n:Int))=false:=by rw[decide_eq_false_iff_not];omega
     have h5:¬(1152921504606846976:Int)<=(n:Int):=by omega
     go_upto_region 50 with fail;obtain⟨m,hm⟩:∃m:Nat,m=16*n:=⟨_,rfl⟩;have h6:IntKind.u64.wrap ((n:Int)*16)=(m:Int):=by rw[IntKind.wrap_u64];omega
     obtain⟨q,hq⟩:∃q:Nat,q=m+d:=⟨_,rfl⟩;have h7:IntKind.u64.wrap ((m:Int)+(48+(d:Int)-48))=(q:Int):=by rw[IntKind.wrap_u64];omega
     have h8:¬(q:Int)<(m:Int):=by omega
     have h9:¬(255:Int)<(q:Int):=by omega
     have HM:=S (X hm (X hn15 hq));clear hm hn15 hq h4 h5 h1 h2 h3;go_upto_region 52 with fail;go_wp2;go_roundg gk
     case measure=>omega
     case rel=>
      refine⟨k+1,by have:=HK.1;omega,rfl,by go_num,?_,?_,rfl⟩
      ·have e2:q=16*n+(48+d-48):=by have:=HM.1.1;have:=HM.1.2.2;omega
       rw[HN.1,HX.1,<-e2]
      ·intro j hj;rcases Nat.lt_or_ge j k with h' |h'
       ·exact HD.1 j h'
       ·exact HJ.1 j (by omega)
    ·have HLo:=S (λW=>lowB (bAt s k) W);have hk2:k<2:=by omega
     have hL:((bAt s k).toNat<48/\(((bAt s k).toNat:Int)==95)=false)\/(57<(bAt s k).toNat/\(((bAt s k).toNat:Int)==95)=false)\/(57<(bAt s k).toNat/\(((bAt s k).toNat:Int)==95)=true):=by
      rcases(show(bAt s k).toNat<48\/(57<(bAt s k).toNat/\(bAt s k).toNat≠95)\/(bAt s k).toNat=95 by omega)with h|h|h
      ·left;exact⟨h,by simp;omega⟩
      ·right;left;exact⟨h.1,by simp;omega⟩
      ·right;right;exact⟨by omega,by rw[h];rfl⟩
     have h99:¬(97<=(bAt s k).toNat ||| 32/\(bAt s k).toNat ||| 32<=122)->Bc (bAt s k).toNat=99:=λh=>by unfold Bc;rw[if_neg hdig,if_neg h]
     have h87:(97<=(bAt s k).toNat ||| 32/\(bAt s k).toNat ||| 32<=122)->Bc (bAt s k).toNat=((bAt s k).toNat ||| 32)-87:=λh=>by unfold Bc;rw[if_neg hdig,if_pos h]
     have hl256:(bAt s k).toNat ||| 32<256:=Nat.or_lt_two_pow (n:=8) (by omega) (by decide);have hJk:Bc (bAt s k).toNat<16\/∃j,j<2/\¬Bc (bAt s j).toNat<16:=by
      by_cases h:Bc (bAt s k).toNat<16
      ·exact .inl h
      ·exact .inr ⟨k,hk2,h⟩
     have hx:(((bAt s k).toNat ||| 32<97\/122<(bAt s k).toNat ||| 32)/\∃j,j<2/\¬Bc (bAt s j).toNat<16)\/(97<=(bAt s k).toNat ||| 32/\102<(bAt s k).toNat ||| 32/\(bAt s k).toNat ||| 32<=122/\∃j,j<2/\¬Bc (bAt s j).toNat<16)\/(97<=(bAt s k).toNat ||| 32/\(bAt s k).toNat ||| 32<=102):=by
      by_cases h1:97<=(bAt s k).toNat ||| 32/\(bAt s k).toNat ||| 32<=122
      ·have h2:=h87 h1;rcases Nat.lt_or_ge 102 ((bAt s k).toNat ||| 32)with h3|h3
       ·refine .inr (.inl ⟨h1.1,h3,h1.2,?_⟩);rcases hJk with h|h
        ·omega
        ·exact h
       ·exact .inr (.inr ⟨h1.1,h3⟩)
      ·have h2:=h99 h1;refine .inl ⟨by omega,?_⟩;rcases hJk with h|h
       ·omega
       ·exact h
     have HDG:=S h87;clear hdig h99 h87 hJk;go_upto_region 38 with fail;have HB0:=S hb;generalize hLe:(bAt s k).toNat ||| 32=L at*;generalize hce:(bAt s k).toNat=c at*;rcases hx with⟨hx,hbad⟩| ⟨hx1,hx2,hx3,hbad⟩| ⟨hx1,hx2⟩
     ·have HBad:=S hbad;clear hbad;rcases hL with⟨hL,h95⟩| ⟨hL,h95⟩| ⟨hL,h95⟩<;>rcases hx with hx|hx
      all_goals
       go_upto_region 44 with fail;go_wp2_with fail;refine(HLo.1 _).mono ?_;rintro e w5 ⟨rfl,rfl⟩;go_wp2_with fail;try(refine(HLo.1 _).mono ?_;rintro e w5 ⟨rfl,rfl⟩;go_wp2)
       go_ret2;exact⟨H0.1.2,.inr ⟨by simpa using HBad.1,rfl⟩⟩
     ·have HBad:=S hbad;clear hbad;obtain⟨f,rfl⟩:∃f:Nat,L=97+f:=⟨L-97,by omega⟩;have hf6:6<=f:=by omega
      have hf25:f<=25:=by omega
      rcases hL with⟨hL,h95⟩| ⟨hL,h95⟩| ⟨hL,h95⟩
      all_goals
       go_upto_region 44 with fail;go_wp2_with fail;refine(HLo.1 _).mono ?_;rintro e w5 ⟨rfl,rfl⟩;go_wp2_with fail;refine(HLo.1 _).mono ?_;rintro e w5 ⟨rfl,rfl⟩;go_wp2_with fail;refine(HLo.1 _).mono ?_;rintro e w5 ⟨rfl,rfl⟩;have hge:(16:Int)<=97+(f:Int)-97+10:=by omega
       go_wp2;go_ret2;exact⟨H0.1.2,.inr ⟨by simpa using HBad.1,rfl⟩⟩
     ·obtain⟨f,rfl⟩:∃f:Nat,L=97+f:=⟨L-97,by omega⟩;have hf5:f<=5:=by omega
      obtain⟨d,hdf⟩:∃d:Nat,d=f+10:=⟨_,rfl⟩;have HK:=S hk;have hn15:BE s k<=15:=by
       have hk1:k=0\/k=1:=by omega
       rcases hk1 with rfl|rfl
       ·simp[BE]
       ·have:=HD.1 0 (by omega);simp only[BE];omega
      have HN:=S (show BE s (k+1)=16*BE s k+Bc c by
       rw[<-hce];have hk1:k=0\/k=1:=by omega
       rcases hk1 with rfl|rfl
       ·simp[BE]
       ·simp[BE])
      have HX:=S (HDG.1 (by omega));have HJ:=S (show ∀j,j=k->Bc (bAt s j).toNat<16 by intro j e;subst e;rw[hce,HX.1];omega);generalize hpn:BE s k=n at*;clear hpn hs hk hne hce hLe;rcases hL with⟨hL,h95⟩| ⟨hL,h95⟩| ⟨hL,h95⟩
      all_goals
       go_upto_region 44 with fail;go_wp2_with fail;refine(HLo.1 _).mono ?_;rintro e w5 ⟨rfl,rfl⟩;go_wp2_with fail;refine(HLo.1 _).mono ?_;rintro e w5 ⟨rfl,rfl⟩;go_wp2_with fail;refine(HLo.1 _).mono ?_;rintro e w5 ⟨rfl,rfl⟩;go_upto_region 46 with fail;go_upto_region 48 with fail;have h4:decide ((1152921504606846976:Int)<=(n:Int))=false:=by rw[decide_eq_false_iff_not];omega
       have h5:¬(1152921504606846976:Int)<=(n:Int):=by omega
       go_upto_region 50 with fail;obtain⟨m,hm⟩:∃m:Nat,m=16*n:=⟨_,rfl⟩;have h6:IntKind.u64.wrap ((n:Int)*16)=(m:Int):=by rw[IntKind.wrap_u64];omega
       obtain⟨q,hq⟩:∃q:Nat,q=m+d:=⟨_,rfl⟩;have h7:IntKind.u64.wrap ((m:Int)+(97+(f:Int)-97+10))=(q:Int):=by rw[IntKind.wrap_u64];omega
       have h8:¬(q:Int)<(m:Int):=by omega
       have h9:¬(255:Int)<(q:Int):=by omega
       have HM:=S (X hm (X hn15 hq));clear hm hn15 hq h4 h5 hL;go_upto_region 52 with fail;go_wp2;go_roundg gk
       case measure=>omega
       case rel=>
        refine⟨k+1,by have:=HK.1;omega,rfl,by go_num,?_,?_,rfl⟩
        ·have e2:q=16*n+(97+f-87):=by have:=HM.1.1;have:=HM.1.2.2;omega
         rw[HN.1,HX.1,<-e2]
        ·intro j hj;rcases Nat.lt_or_ge j k with h' |h'
         ·exact HD.1 j h'
         ·exact HJ.1 j (by omega)
def Oo(k u:Nat)(h:u<10 ^ (k+1)):(decDigits u).length<=k+1:=by
 induction k generalizing u with
 |zero=>rw[decDigits,dif_pos (by simpa using h)];simp
 | succ k ih=>
   rw[decDigits];split
   ·simp
   ·have:=ih (u/10) (by rw[Nat.pow_succ]at h;omega);simp;omega
def Zp(h:A5 m):(itoa m).length<=20:=by
 obtain⟨h0,h1⟩:=h;unfold itoa;split
 ·have:=Oo 18 m.natAbs (by show _<10000000000000000000;omega);simp;omega
 ·have:=Oo 18 m.toNat (by show _<10000000000000000000;omega);omega
def E9(s:Bs)(i:Nat)(ok:Bool)(n:Int)(i':Nat)(ok':Bool):Prop:=
 A5 n/\i<=i'/\(ok'=true->ok=true/\s.drop i=itoa n++s.drop i')/\(∀m r,ok=true->A5 m->s.drop i=itoa m++r->stop r->ok'=true/\n=m/\s.drop i'=r)
def Ls(hik:i<=k)(hk:k<=s.length)(hn:∀j,i<=j->j<k->B8 (bAt s j)=true)(hst:k<s.length->B8 (bAt s k)=false){r:Bs}(h:s.drop i=itoa m++r)(hr:stop r):(s.drop i).take (k-i)=itoa m/\s.drop k=r:=by
 refine O7 (Yf s hik hk hn) (DX m) (YH hst) hr ?_;rw[<-K3 s hik];exact h
def WK(hik:i<=k)(hk:k<=s.length)(hn:∀j,i<=j->j<k->B8 (bAt s j)=true)(hst:k<s.length->B8 (bAt s k)=false)(h:20<k-i):E9 s i ok 0 i false:=by
 refine⟨by unfold A5;omega,nR _,λe=>(by cases e),λm r _ hm he hr=>?_⟩;have h1:=(Ls hik hk hn hst he hr).1;have h2:=Zp hm;have h3:=congrArg List.length h1;simp at h3;omega
def Zl(hik:i<=k)(hk:k<=s.length)(hn:∀j,i<=j->j<k->B8 (bAt s j)=true)(hst:k<s.length->B8 (bAt s k)=false) (h:itoa (Dg ((s.drop i).take (k-i)))≠(s.drop i).take (k-i)):E9 s i ok 0 i false:=by
 refine⟨by unfold A5;omega,nR _,λe=>(by cases e),λm r _ hm he hr=>?_⟩;have h1:=(Ls hik hk hn hst he hr).1;rw[h1,Nj hm]at h;exact absurd rfl h
def WJ(hik:i<=k)(hk:k<=s.length)(hn:∀j,i<=j->j<k->B8 (bAt s j)=true)(hst:k<s.length->B8 (bAt s k)=false) (h:itoa (Dg ((s.drop i).take (k-i)))=(s.drop i).take (k-i)):E9 s i ok (Dg ((s.drop i).take (k-i))) k ok:=by
 refine⟨O5 _,hik,λe=>⟨e,by rw[h];exact K3 s hik⟩,λm r hok hm he hr=>?_⟩;obtain⟨h1,h2⟩:=Ls hik hk hn hst he hr;exact⟨hok,by rw[h1,Nj hm],h2⟩
def OH{W1:World}(h:(W.cell? ⟨b,0,none⟩=some (str s)/\W.cell? ⟨b,1,none⟩=some (.int .i64 i))/\w0.grownBy W none)(g:W.grownBy W1 none):(W1.cell? ⟨b,0,none⟩=some (str s)/\W1.cell? ⟨b,1,none⟩=some (.int .i64 i))/\w0.grownBy W1 none:=
 ⟨⟨Ae g h.1.1,Ae g h.1.2⟩,Z h.2 g⟩
def Oa{A:Prop}{n:Int}(h:A/\w0.grownBy W none)(hp:Pow w0)(hn:A5 n):Calls Tryz.prog 32 #[.int .i64 n] W (ρ W (str (Lib.itoa n))):=Jb (hp.gb h.2) n hn.1 hn.2
def Hc(h:Rdr w b s i ok)(hp:Pow w):
 Calls Tryz.prog 24 #[.pointer (some ⟨b,0,none⟩)] w λe w'=>∃n i' ok',e= .returned (.int .i64 n)/\Rdr w' b s i' ok'/\w.grownBy w' (some b)/\E9 s i ok n i' ok':=by
 have c0:=h.c0;have c1:=h.c1;have hle:=h.le;have hfew:=h.few;have HH:=S h;have HP:=S hp;clear h hp;go_enter func24,ntmps24;go_wp2_with fail;go_loopg [3] s.length (λg v3 wr=>∃k:Nat,k+g=s.length+i/\i<=k/\k<=s.length/\v3= .int .i64 k/\(∀j,i<=j->j<k->B8 (bAt s j)=true)/\w.grownBy wr none)
 case atStart=>exact⟨i,by omega,nR _,hle,rfl,λj h1 h2=>absurd h2 (by omega),Aa _ _⟩
 case round=>
  obtain⟨k,hk,hik,hkl,rfl,hn,hG⟩:=hrel;have d0:=Ae hG c0;have d1:=Ae hG c1;clear c0 c1;have HN:=S (X hn hG);clear hn hG;by_cases hgo:k<s.length/\B8 (bAt s k)=true
  ·obtain⟨hks,hnum⟩:=hgo;have hnn:=Kn.1 hnum;rw[B0 hks]at hnn;have hj1:decide (k<s.length)=true:=by simpa using hks
   have hgk:=λh=>CT s k h hks;have hb:=s[k].toNat_lt;have HS:=S hnum;clear hnum;have hnx:=hnn;clear hnn;have hc:((s[k].toNat:Int)==45)=true\/((s[k].toNat:Int)==45)=false/\48<=(s[k].toNat:Int)/\(s[k].toNat:Int)<=57:=by
    rcases hnx with h| ⟨h,h'⟩
    ·left;simp;omega
    ·right;refine⟨by simp;omega,by omega,by omega⟩
   clear hnx;rcases hc with i1| ⟨i1,i2,i3⟩
   all_goals
    go_wp2;go_roundg (s.length+i-(k+1))
    case measure=>omega
    case rel=>
     refine⟨k+1,by omega,by omega,by omega,by go_num,λj h1 h2=>?_,HN.1.2⟩;rcases Nat.lt_or_ge j k with h3|h3
     ·exact HN.1.1 j h1 h3
     ·rw[show j=k by omega];exact HS.1
  ·have hst : k < s.length -> B8 (bAt s k) = false :=λh => by
    cases hq:B8 (bAt s k)with
    |false=>rfl
    |true=>exact absurd ⟨h,hq⟩ hgo
   clear hgo;have HT:=S (X HN.1.1 (X hst HN.1.2));clear HN;have hx:decide (k<s.length)=false\/(∃h:k<s.length,((s[k].toNat:Int)==45)=false/\¬48<=(s[k].toNat:Int))\/(∃h:k<s.length,((s[k].toNat:Int)==45)=false/\48<=(s[k].toNat:Int)/\¬(s[k].toNat:Int)<=57):=by
    rcases Nat.lt_or_ge k s.length with h1|h1
    ·right;have h2:=hst h1;have h3:¬(s[k].toNat=45\/48<=s[k].toNat/\s[k].toNat<=57):=by
      rw[<-B0 h1];intro e;rw[Kn.2 e]at h2;cases h2
     rcases Nat.lt_or_ge s[k].toNat 48 with h4|h4
     ·left;exact⟨h1,by simp;omega,by omega⟩
     ·right;exact⟨h1,by simp;omega,by omega,by omega⟩
    ·left;simpa using h1
   clear hst;have hm:(decide (i<k)=false/\Dg ((s.drop i).take (k-i))=wrap64 (-(Dm ((s.drop i).take (k-i)))))\/(∃h:i<s.length,((i:Int)<(k:Int)/\(0:Int)<=(i:Int)/\(i:Int)<(s.length:Int))/\((s[i].toNat:Int)==45)=true/\Dg ((s.drop i).take (k-i))=Dm ((s.drop i).take (k-i)))\/(∃h:i<s.length,((i:Int)<(k:Int)/\(0:Int)<=(i:Int)/\(i:Int)<(s.length:Int))/\((s[i].toNat:Int)==45)=false/\Dg ((s.drop i).take (k-i))=wrap64 (-(Dm ((s.drop i).take (k-i))))):=by
    rcases Nat.lt_or_ge i k with h1|h1
    ·right;have h0:i<s.length:=by omega
     have h3:((s.drop i).take (k-i)).head? =some s[i]:=by
      obtain⟨q,hq⟩:∃q,k-i=q+1:=⟨k-i-1,by omega⟩;rw[List.drop_eq_getElem_cons h0,hq];rfl
     unfold Dg;rw[h3];by_cases h2:s[i]=45
     ·left;exact⟨h0,⟨by omega,by omega,by omega⟩,by rw[h2];rfl,by rw[if_pos (by rw[h2])]⟩
     ·right;refine⟨h0,⟨by omega,by omega,by omega⟩,?_,by rw[if_neg (by simpa using h2)]⟩;rw[beq_eq_false_iff_ne];intro e;exact h2 (UInt8.toNat_inj.1 (by show _=45;omega))
    ·left;refine⟨by simpa using h1,?_⟩;rw[show k-i=0 by omega];rfl
   have hN64:=O5 ((s.drop i).take (k-i));generalize hNe:Dg ((s.drop i).take (k-i))=N at*;rcases hx with hj1| ⟨hks,i1,i2⟩| ⟨hks,i1,i2,i3⟩<;>rcases hm with⟨hj2,hR⟩| ⟨his,⟨hj2,hj3,hj4⟩,i5,hR⟩| ⟨his,⟨hj2,hj3,hj4⟩,i5,hR⟩
   all_goals
    try have hgk:=λh=>CT s k h hks
    try have hgi:=λh=>CT s i h his
    try have hj1:decide (k<s.length)=true:=by simpa using hks
    have HR:=S hR;have HE:=S hNe;have hn0:=hN64.1;have hn1:=hN64.2;clear hR hNe hN64;go_wp2_with fail;go_quiet(fail);have gq:w.grownBy (wr.drewN nq) none:=Aj HT.1.2.2 _;generalize wr.drewN nq=w1 at*;have e0:=Ae gq HH.1.c0;have e1:=Ae gq HH.1.c1;have HG:=S gq;clear gq d0 d1;go_wp2_with fail;go_loopg [4,6] s.length (λg v4 v6 wr=>∃j:Nat,∃n:Int,k-j<=g/\i<=j/\j<=k/\v6= .int .i64 j/\v4= .int .i64 n/\n=Dm ((s.drop i).take (j-i))/\w.grownBy wr none)
    case atStart=>exact⟨i,0,by omega,nR _,hik,rfl,rfl,by rw[Nat.sub_self];rfl,HG.1⟩
    case round=>
     obtain⟨j,n,hj,hij,hjk,rfl,rfl,hnf,hG2⟩:=hrel;have b0:=Ae hG2 HH.1.c0;have b1:=Ae hG2 HH.1.c1;have HG2:=S hG2;clear e0 e1 hG2;by_cases hjl:j<k
     ·have hjI:decide (j<k)=true:=by simpa using hjl
      have hjs:j<s.length:=by omega
      have hgj:=λh=>CT s j h hjs;have hb:=s[j].toNat_lt;have hnn:=Kn.1 (HT.1.1 j hij hjl);rw[B0 hjs]at hnn;have HS:=S (show Dm ((s.drop i).take (j+1-i))=DP n s[j]by rw[Vh s hij hjs,SA,<-hnf,B0 hjs]);clear hnf;by_cases h45:s[j].toNat=45
      ·have q1:((s[j].toNat:Int)==45)=true:=by simp;omega
       have HE:=S (show DP n s[j]=n by unfold DP;rw[if_pos (UInt8.toNat_inj.1 h45)]);clear h45 hnn;go_wp2;go_roundg (k-(j+1))
       case measure=>omega
       case rel=>exact⟨j+1,n,by omega,by omega,by omega,by go_num,rfl,by rw[HS.1,HE.1],HG2.1⟩
      ·have q1:((s[j].toNat:Int)==45)=false:=by simp;omega
       have HE:=S (show DP n s[j]=wrap64 (wrap64 (10*n)-((s[j].toNat:Int)-48))by unfold DP;rw[if_neg (λe=>h45 (by rw[e];rfl))]);have q3:48<=s[j].toNat/\s[j].toNat<=57:=by omega
       obtain⟨q3,q4⟩:=q3;clear h45 hnn;go_wp2;go_roundg (k-(j+1))
       case measure=>omega
       case rel=>exact⟨j+1,_,by omega,by omega,by omega,by go_num,rfl,by rw[HS.1,HE.1],HG2.1⟩
     ·have hjI:decide (j<k)=false:=by simpa using hjl
      have hje:j=k:=by omega
      subst hje;have HW:=HR.1;rw[<-hnf]at HW;first| (have hw:wrap64 (-n)=N:=HW.symm)| (have hw:n=N:=HW.symm)
      have HNo:=S (show N=Dg ((s.drop i).take (j-i))from HE.1.symm);have hl1:IntKind.i64.wrap ((j:Int)-(i:Int))=(j:Int)-(i:Int):=IntWalk.i64_in _ (by omega);have HD:=S (X hij (X hkl (X HT.1.1 HT.1.2.1)));clear hnf HW HR HE;by_cases hlong:20<j-i
      ·have hlg:(20:Int)<(j:Int)-(i:Int):=by omega
       go_wp2_with fail;go_quiet(fail);have gq:=Aj HG2.1 nq;have hZ:=HH.1.gbN gq;have z0:=hZ.c0;have z2:=hZ.c2;have f2:=hZ.blk.frozen 2;have hlt:=hZ.blk.lt;have HZ:=S (X hZ gq);clear hZ gq b0 b1;go_wp2;go_ret;exact⟨0,i,false,rfl,HZ.1.1.bad,Ai (Ao HZ.1.2) 2 _,WK HD.1.1 HD.1.2.1 HD.1.2.2.1 HD.1.2.2.2 hlong⟩
      ·have hlg:decide ((20:Int)<(j:Int)-(i:Int))=false:=by simp;omega
       have HX:=S (show(λW=>(W.cell? ⟨b,0,none⟩=some (str s)/\W.cell? ⟨b,1,none⟩=some (.int .i64 i))/\w.grownBy W none) _ from⟨⟨Ae (Ad HG2.1) HH.1.c0,Ae (Ad HG2.1) HH.1.c1⟩,Ad HG2.1⟩);have k1:(0:Int)<=(i:Int):=by omega
       have k2:(i:Int)<=(j:Int):=by omega
       have k3:(j:Int)<=(s.length:Int):=by omega
       have ex:((⟨s.toArray⟩:ByteArray).extract i j).toList=(s.drop i).take (j-i):=by rw[Cf];simp
       have hN64:A5 N:=⟨hn0,hn1⟩;cases heq:(itoa N==(s.drop i).take (j-i))with
       | true=>
         have hq:(itoa N==((⟨s.toArray⟩:ByteArray).extract i j).toList)=true:=by rw[ex];exact heq
         have HQ:=S (show itoa N=(s.drop i).take (j-i)by simpa using heq);clear heq ex;go_wp2_with fail;go_region_held3 (λW=>(W.cell? ⟨b,0,none⟩=some (str s)/\W.cell? ⟨b,1,none⟩=some (.int .i64 i))/\w.grownBy W none)
          (first|exact HX.1|exact OH (by assumption) g5)
          ((go_at_call 32;refine(Oa (by assumption) HP.1 hN64).mono ?_;rintro e w5 ⟨rfl,g5⟩))
         rename_i hH;have hZ:=HH.1.gbN hH.2;have f1:=hZ.blk.frozen 1;have z2:=hZ.c1;have hlt:=hZ.blk.lt;have HZ:=S (X hZ hH.2);clear hZ hH g5 b0 b1;go_wp2;go_ret;exact⟨N,j,ok,rfl,HZ.1.1.go HD.1.2.1,Ai (Ao HZ.1.2) 1 _,by have h9:=WJ (ok:=ok) HD.1.1 HD.1.2.1 HD.1.2.2.1 HD.1.2.2.2 (by rw[<-HNo.1];exact HQ.1);rwa[<-HNo.1]at h9⟩
       | false=>
         have hq:(itoa N==((⟨s.toArray⟩:ByteArray).extract i j).toList)=false:=by rw[ex];exact heq
         have HQ:=S (show itoa N≠(s.drop i).take (j-i)by simpa using heq);clear heq ex;go_wp2_with fail;go_region_held3 (λW=>(W.cell? ⟨b,0,none⟩=some (str s)/\W.cell? ⟨b,1,none⟩=some (.int .i64 i))/\w.grownBy W none)
          (first|exact HX.1|exact OH (by assumption) g5)
          ((go_at_call 32;refine(Oa (by assumption) HP.1 hN64).mono ?_;rintro e w5 ⟨rfl,g5⟩))
         rename_i hH;have hZ:=HH.1.gbN hH.2;have f2:=hZ.blk.frozen 2;have z2:=hZ.c2;have hlt:=hZ.blk.lt;have HZ:=S (X hZ hH.2);clear hZ hH g5 b0 b1;go_wp2;go_ret;exact⟨0,i,false,rfl,HZ.1.1.bad,Ai (Ao HZ.1.2) 2 _,Zl HD.1.1 HD.1.2.1 HD.1.2.2.1 HD.1.2.2.2 (by rw[<-HNo.1];exact HQ.1)⟩
def F3(t s:Bs)(i:Nat)(ok:Bool)(i':Nat)(ok':Bool):Prop:=
 i<=i'/\(ok'=true->ok=true/\s.drop i=t++s.drop i')/\(∀r,ok=true->s.drop i=t++r->ok'=true/\s.drop i'=r)
def GG(s:Bs)(i:Nat)(ok:Bool)(t:Bs)(i':Nat)(ok':Bool):Prop:=
 i<=i'/\(ok'=true->ok=true/\s.drop i=qtM t++s.drop i')/\(∀m r,ok=true->s.drop i=qtM m++r->ok'=true/\t=m/\s.drop i'=r)
def Lx(s:Bs)(i:Nat)(ok:Bool)(c:Cd)(i':Nat)(ok':Bool):Prop:=
 i<=i'/\(ok'=true->ok=true/\s.drop i=AO c++s.drop i')/\(∀m r,ok=true->CQ m->s.drop i=AO m++r->ok'=true/\c=m/\s.drop i'=r)
def EJ:Aw s i ok t=true↔ok=true/\s.drop i=t++s.drop (i+t.length):=by
 unfold Aw;rw[Bool.and_eq_true,beq_iff_eq];refine and_congr_right λ_=>⟨λh=>?_,λh=>?_⟩
 ·have:=(List.take_append_drop t.length (s.drop i)).symm;rw[h,List.drop_drop]at this;exact this
 ·rw[h];simp
def Gi(s:Bs)(i:Nat)(ok:Bool)(t:Bs):F3 t s i ok (Cu s i ok t) (Aw s i ok t):=by
 unfold Cu;refine⟨by split<;>omega,λe=>?_,λr hok he=>?_⟩
 ·rw[if_pos e];exact EJ.1 e
 ·have h1:Aw s i ok t=true:=by unfold Aw;rw[hok,he];simp
  rw[if_pos h1,<-List.drop_drop,he];exact⟨h1,by simp⟩
def YP{i0 i4 i5 i6 i7 i8:Nat}{o0 o1 o2 o3 o4 o5 o6 o7 o8:Bool}{n1 n2 n3:Int}
 (h1:E9 s i0 o0 n1 i1 o1) (h2:F3 [32] s i1 o1 i2 o2) (h3:E9 s i2 o2 n2 i3 o3) (h4:F3 [32] s i3 o3 i4 o4) (h5:E9 s i4 o4 n3 i5 o5) (h6:F3 [32] s i5 o5 i6 o6) (h7:GG s i6 o6 t i7 o7) (h8:F3 [10] s i7 o7 i8 o8):
 Lx s i0 o0 ⟨n1,n2,n3,t⟩ i8 o8:=by
 refine⟨?_,λe=>?_,λm r hok hm he=>?_⟩
 ·have a1:=h1.2.1;have a2:=h2.1;have a3:=h3.2.1;have a4:=h4.1;have a5:=h5.2.1;have a6:=h6.1;have a7:=h7.1;have a8:=h8.1;omega
 ·obtain⟨e7,s8⟩:=h8.2.1 e;obtain⟨e6,s7⟩:=h7.2.1 e7;obtain⟨e5,s6⟩:=h6.2.1 e6;obtain⟨e4,s5⟩:=h5.2.2.1 e5;obtain⟨e3,s4⟩:=h4.2.1 e4;obtain⟨e2,s3⟩:=h3.2.2.1 e3;obtain⟨e1,s2⟩:=h2.2.1 e2;obtain⟨e0,s1⟩:=h1.2.2.1 e1;refine⟨e0,?_⟩;rw[s1,s2,s3,s4,s5,s6,s7,s8];simp[AO,List.append_assoc]
 ·unfold AO at he;simp only[List.append_assoc]at he;obtain⟨e1,rfl,s1⟩:=h1.2.2.2 m.op _ hok hm.1 he (Ec _);obtain⟨e2,s2⟩:=h2.2.2 _ e1 s1;obtain⟨e3,rfl,s3⟩:=h3.2.2.2 m.a _ e2 hm.2.1 s2 (Ec _);obtain⟨e4,s4⟩:=h4.2.2 _ e3 s3;obtain⟨e5,rfl,s5⟩:=h5.2.2.2 m.b _ e4 hm.2.2 s4 (Ec _);obtain⟨e6,s6⟩:=h6.2.2 _ e5 s5;obtain⟨e7,rfl,s7⟩:=h7.2.2 m.s _ e6 s6;obtain⟨e8,s8⟩:=h8.2.2 _ e7 s7;exact⟨e8,rfl,s8⟩
def VZ{i':Nat}(h:Lx s i ok c i' true)(hi:i'<=s.length):i<i':=by
 have h1:=congrArg List.length (h.2.1 rfl).2;simp[AO]at h1;omega
def B6(n:Int):Bs:=[115,117,109,32]++itoa n++[10]
def Gb(us:List Un)(n:Int):Bx us n=AG us++B6 n:=rfl
def To(us vs:List Un):AG (us++vs)=AG us++AG vs:=by
 rw[Fi,Fi,Fi,List.flatMap_append]
def I3(u:Un)(vs:List Un):AG (u::vs)=BM u++AG vs:=by
 rw[Fi,Fi,fC]
def F_S:AG []=[]:=rfl
structure RO(s:Bs)(us:List Un)(i:Nat)(ok:Bool):Prop where
 sound:ok=true->s=AG us++s.drop i
 full:∀vs n,WideUs vs->A5 n->s=Bx vs n->ok=true/\∃tl,vs=us++tl/\s.drop i=AG tl++B6 n
structure RR(s:Bs)(us:List Un)(nm:Bs)(l:List Int)(i:Nat)(ok:Bool):Prop where
 sound:ok=true->s=AG us++([117,110,105,116,32]++qtM nm++l.flatMap A3)++s.drop i
 full:∀vs n,WideUs vs->A5 n->s=Bx vs n->ok=true/\∃v tl rw,vs=us++v::tl/\v.name=nm/\v.row=l++rw/\s.drop i=rw.flatMap A3++10::(v.code.flatMap AO++(AG tl++B6 n))
structure RC(s:Bs)(us:List Un)(nm:Bs)(l:List Int)(cs:List Cd)(i:Nat)(ok:Bool):Prop where
 sound:ok=true->s=AG us++([117,110,105,116,32]++qtM nm++l.flatMap A3++[10]++cs.flatMap AO)++s.drop i
 full:∀vs n,WideUs vs->A5 n->s=Bx vs n->ok=true/\∃v tl cr,vs=us++v::tl/\v.name=nm/\v.row=l/\v.code=cs++cr/\s.drop i=cr.flatMap AO++(AG tl++B6 n)
def RO.init(s:Bs):RO s [] 0 true:=⟨λ_=>by simp[F_S],λvs n _ _ h=>⟨rfl,vs,rfl,by rw[List.drop_zero,h,Gb]⟩⟩
def KY(v:Un)(r:Bs):BM v++r=[117,110,105,116,32]++(qtM v.name++(v.row.flatMap A3++10::(v.code.flatMap AO++r))):=by
 rw[GZ,CR];simp[List.append_assoc]
def RO.unit(h:RO s us i ok)(hh:Aw s i ok [117,110,105,116,32]=true)(ht:GG s (i+5) true t i1 ok1):RR s us t [] i1 ok1:=by
 obtain⟨h0,h1⟩:=EJ.1 hh;have h1:s.drop i=[117,110,105,116,32]++s.drop (i+5):=h1;refine⟨λe=>?_,λvs n hw hn he=>?_⟩
 ·have e1:=h.sound h0;rw[h1,(ht.2.1 e).2]at e1;simpa[List.append_assoc]using e1
 ·obtain⟨_,tl,rfl,h2⟩:=h.full vs n hw hn he;rw[h1]at h2;cases tl with
  |nil=>simp[F_S,B6]at h2
  | cons v tl=>
    rw[I3,List.append_assoc,KY]at h2;obtain⟨e1,rfl,e2⟩:=ht.2.2 _ _ rfl (List.append_cancel_left h2);exact⟨e1,v,tl,v.row,rfl,rfl,rfl,e2⟩
def Xj(l:List Int)(r:Bs):stop (l.flatMap A3++10::r):=by
 cases l with
 |nil=>exact Hg _
 |cons i k=>rw[fC,A3];exact Ec _
def RR.num{n:Int}(h:RR s us nm l i ok)(hh:Aw s i ok [32]=true)(ht:E9 s (i+1) true n i1 ok1):RR s us nm (l++[n]) i1 ok1:=by
 obtain⟨h0,h1⟩:=EJ.1 hh;have h1:s.drop i=[32]++s.drop (i+1):=h1;refine⟨λe=>?_,λvs m hw hn he=>?_⟩
 ·have e1:=h.sound h0;rw[h1,(ht.2.2.1 e).2]at e1;rw[List.flatMap_append];simpa[List.append_assoc,A3]using e1
 ·obtain⟨_,v,tl,rw',rfl,rfl,h3,h2⟩:=h.full vs m hw hn he;rw[h1]at h2;cases rw' with
  |nil=>simp at h2
  | cons x rw'=>
    rw[fC,A3]at h2;simp only[List.cons_append,List.nil_append,List.cons.injEq,true_and,List.append_assoc]at h2;have hx:A5 x:=(hw v (by simp)).1 x (by rw[h3];simp);obtain⟨e1,rfl,e2⟩:=ht.2.2.2 _ _ rfl hx h2 (Xj _ _);exact⟨e1,v,tl,rw',rfl,rfl,by rw[h3];simp,e2⟩
def RR.line(h:RR s us nm l i ok)(hh:Aw s i ok [32]=false)(ht:F3 [10] s i ok i1 ok1):RC s us nm l [] i1 ok1:=by
 refine⟨λe=>?_,λvs m hw hn he=>?_⟩
 ·obtain⟨e0,e1⟩:=ht.2.1 e;have e2:=h.sound e0;rw[e1]at e2;simpa[List.append_assoc]using e2
 ·obtain⟨h0,v,tl,rw',rfl,rfl,h3,h2⟩:=h.full vs m hw hn he;cases rw' with
  | nil=>
    obtain⟨e1,e2⟩:=ht.2.2 _ h0 (by simpa using h2);exact⟨e1,v,tl,v.code,rfl,rfl,by rw[h3];simp,rfl,e2⟩
  | cons x rw'=>
    rw[fC,A3]at h2;have:Aw s i ok [32]=true:=by unfold Aw;rw[h0,h2];simp
    rw[hh]at this;cases this
def RC.code(h:RC s us nm l cs i ok)(hu:Aw s i ok [117,110,105,116,32]=false)(hm:Aw s i ok [115,117,109,32]=false)(ht:Lx s i ok c i1 ok1):RC s us nm l (cs++[c]) i1 ok1:=by
 refine⟨λe=>?_,λvs m hw hn he=>?_⟩
 ·obtain⟨e0,e1⟩:=ht.2.1 e;have e2:=h.sound e0;rw[e1]at e2;rw[List.flatMap_append];simpa[List.append_assoc]using e2
 ·obtain⟨h0,v,tl,cr,rfl,rfl,rfl,h3,h2⟩:=h.full vs m hw hn he;cases cr with
  | nil=>
    rw[List.flatMap_nil,List.nil_append]at h2;cases tl with
    | nil=>
      have:Aw s i ok [115,117,109,32]=true:=by unfold Aw;rw[h0,h2];simp[F_S,B6]
      rw[hm]at this;cases this
    | cons x tl=>
      have:Aw s i ok [117,110,105,116,32]=true:=by unfold Aw;rw[h0,h2,I3,List.append_assoc,KY];simp
      rw[hu]at this;cases this
  | cons x cr=>
    rw[fC,List.append_assoc]at h2;have hx:CQ x:=(hw v (by simp)).2 x (by rw[h3];simp);obtain⟨e1,rfl,e2⟩:=ht.2.2 _ _ h0 hx h2;exact⟨e1,v,tl,cr,rfl,rfl,rfl,by rw[h3];simp,e2⟩
def RC.done(h:RC s us nm l cs i ok)(hx:ok=false\/Aw s i ok [117,110,105,116,32]=true\/Aw s i ok [115,117,109,32]=true):RO s (us++[⟨nm,l,cs⟩]) i ok:=by
 refine⟨λe=>?_,λvs m hw hn he=>?_⟩
 ·have e2:=h.sound e;rw[To,I3,F_S,List.append_nil,GZ,CR];simpa[List.append_assoc]using e2
 ·obtain⟨h0,v,tl,cr,rfl,rfl,rfl,h3,h2⟩:=h.full vs m hw hn he;cases cr with
  | nil=>
    refine⟨h0,tl,?_,by simpa using h2⟩;rw[List.append_nil]at h3;rw[<-h3];simp
  | cons x cr=>
    exfalso;rw[fC,List.append_assoc]at h2;have h1:=DX x.op;cases hi:itoa x.op with
    |nil=>exact Jm _ hi
    | cons y z=>
      rw[hi]at h1;simp only[List.all_cons,Bool.and_eq_true]at h1;have e:∃q,s.drop i=y::q:=⟨_,by rw[h2,AO,hi];rfl⟩;obtain⟨q,e⟩:=e;rcases hx with hx|hx|hx
      ·rw[h0]at hx;cases hx
      ·have:=(EJ.1 hx).2;rw[e]at this;simp at this;rw[this.1]at h1;exact absurd h1.1 (by decide)
      ·have:=(EJ.1 hx).2;rw[e]at this;simp at this;rw[this.1]at h1;exact absurd h1.1 (by decide)
def Jz(s:Bs)(us:List Un)(n:Int)(ok:Bool):Prop:=
 (ok=true->s=Bx us n)/\(∀vs m,WideUs vs->A5 m->s=Bx vs m->ok=true)
def RO.end{n:Int}{ok2 ok3:Bool}(h:RO s us i ok)(hu:Aw s i ok [117,110,105,116,32]=false)(h1:F3 [115,117,109,32] s i ok i1 ok1)(h2:E9 s i1 ok1 n i2 ok2)(h3:F3 [10] s i2 ok2 i3 ok3)(hi:i3<=s.length):
 Jz s us n (ok3&&decide (i3=s.length))/\(ok3=true->s.take i=AG us):=by
 refine⟨⟨λe=>?_,λvs m hw hn he=>?_⟩,λe=>?_⟩
 ·simp only[Bool.and_eq_true,decide_eq_true_eq]at e;obtain⟨e3,e4⟩:=e;obtain⟨e2,s3⟩:=h3.2.1 e3;obtain⟨e1,s2⟩:=h2.2.2.1 e2;obtain⟨e0,s1⟩:=h1.2.1 e1;have s0:=h.sound e0;rw[s1,s2,s3,e4,List.drop_length]at s0;rw[Gb,B6];simpa[List.append_assoc]using s0
 ·obtain⟨h0,tl,rfl,e2⟩:=h.full vs m hw hn he;cases tl with
  | cons x tl=>
    have:Aw s i ok [117,110,105,116,32]=true:=by unfold Aw;rw[h0,e2,I3,List.append_assoc,KY];simp
    rw[hu]at this;cases this
  | nil=>
    rw[F_S,List.nil_append,B6,List.append_assoc]at e2;obtain⟨e3,s3⟩:=h1.2.2 _ h0 e2;obtain⟨e4,rfl,s4⟩:=h2.2.2.2 _ _ e3 hn s3 (Hg _);obtain⟨e5,s5⟩:=h3.2.2 [] e4 (by simpa using s4);have:=List.drop_eq_nil_iff.1 s5;rw[e5];simp;omega
 ·obtain⟨e2,s3⟩:=h3.2.1 e;obtain⟨e1,s2⟩:=h2.2.2.1 e2;obtain⟨e0,s1⟩:=h1.2.1 e1;have s0:=h.sound e0;have h4:=List.take_append_drop i s;have h5:AG us++s.drop i=s.take i++s.drop i:=s0.symm.trans h4.symm;exact(List.append_cancel_right h5).symm
def OwnBs.gbb{l:Bs}(h:OwnBs w B v l)(g:w.grownBy w1 (some b))(hb:b<B):OwnBs w1 B v l:=by
 refine World.ownsRow.kept h g ?_;cases hv:v.ownBlock with
 |none=>exact .inl rfl
 |some q=>exact .inr (λe=>by have e:=Option.some.inj e;have:=(World.ownsRow.lt h q hv).1;omega)
structure TX(s:Bs)(i:Nat)(ok:Bool)(j:Nat)(l:Bs)(k:Nat)(okk:Bool):Prop where
 top:okk=true->ok=true/\j=i+1/\s.drop i=34::s.drop (i+1)
 le:i<=j/\j<=k
 len:l.length<=k
 full:∀m r,ok=true->s.drop i=qtM m++r->okk=true/\∃q,m=l++q/\s.drop k=q.flatMap qtB++34::r
def YB(m r:Bs):qtM m++r=34::(m.flatMap qtB++34::r):=by rw[Du];simp
section
variable {l:Bs}
def TX.init:TX s i ok (Cu s i ok [34]) [] (Cu s i ok [34]) (Aw s i ok [34]):=by
 show TX s i ok (if Aw s i ok [34]then i+1 else i) [] (if Aw s i ok [34]then i+1 else i) (Aw s i ok [34]);refine⟨λe=>?_,by split<;>omega,by simp,λm r hok he=>?_⟩
 ·rw[if_pos e];obtain⟨h1,h2⟩:=EJ.1 e;exact⟨h1,rfl,h2⟩
 ·rw[YB]at he;have h1:Aw s i ok [34]=true:=by unfold Aw;rw[hok,he];simp
  rw[if_pos h1];refine⟨h1,m,rfl,?_⟩;rw[<-List.drop_drop,he];rfl
def TX.bad(h:TX s i ok j l k true)(hx:∀b q r,s.drop k=qtB b++(q++r)->False)(hq:Aw s k true [34]=false){l':Bs}(hk:k<=k')(hl:l'.length<=k'):TX s i ok j l' k' false:=by
 refine⟨λe=>(by cases e),⟨h.le.1,by have:=h.le.2;omega⟩,hl,λm r hok he=>?_⟩;exfalso;obtain⟨_,q,rfl,h2⟩:=h.full m r hok he;cases q with
 | nil=>
   have:Aw s k true [34]=true:=by unfold Aw;rw[h2];simp
   rw[hq]at this;cases this
 | cons b q=>
   rw[fC,List.append_assoc]at h2;exact hx b _ _ h2
def TX.step(h:TX s i ok j l k true)(hq:Aw s k true [34]=false){c:UInt8}(hk:k<k')(hx:∀b r,s.drop k=qtB b++r->b=c/\s.drop k'=r):TX s i ok j (l++[c]) k' true:=by
 refine⟨h.top,⟨h.le.1,by have:=h.le.2;omega⟩,by have:=h.len;simp;omega,λm r hok he=>?_⟩;obtain⟨_,q,rfl,h2⟩:=h.full m r hok he;cases q with
 | nil=>
   have:Aw s k true [34]=true:=by unfold Aw;rw[h2];simp
   rw[hq]at this;cases this
 | cons b q=>
   rw[fC,List.append_assoc]at h2;obtain⟨rfl,h3⟩:=hx b _ h2;exact⟨rfl,q,by simp,h3⟩
def Hx(h:k<s.length):s.drop k=bAt s k::s.drop (k+1):=by rw[List.drop_eq_getElem_cons h,B0 h]
def NG(hk:k<s.length)(h37:bAt s k≠37)(b:UInt8)(r:Bs)(h:s.drop k=qtB b++r):b=bAt s k/\s.drop (k+1)=r:=by
 rw[Hx hk]at h;unfold qtB at h;split at h
 ·simp at h;exact absurd h.1 h37
 ·simp at h;exact⟨h.1.symm,h.2⟩
def ON(h:n<16):dgM (A4 n).toNat=n:=by
 rw[GC h];unfold dgM;split<;>(try split)<;>(try split)<;>omega
def J1(hk:k<s.length)(h37:bAt s k=37){b:UInt8}{r:Bs}(h:s.drop k=qtB b++r):k+3<=s.length/\dgM (bAt s (k+1)).toNat=((b.toNat/16:Nat):Int)/\dgM (bAt s (k+2)).toNat=((b.toNat%16:Nat):Int)/\s.drop (k+3)=r:=by
 have hb:=BR (b:=b);unfold qtB at h;split at h
 ·have hl:=congrArg List.length h;simp at hl;have h1:k+1<s.length:=by omega
  have h2:k+2<s.length:=by omega
  rw[Hx hk,Hx h1,Hx h2]at h;simp only[List.cons_append,List.nil_append,List.cons.injEq]at h;obtain⟨_,e1,e2,e3⟩:=h;rw[e1,e2,ON hb.1,ON hb.2];exact⟨by omega,rfl,rfl,e3⟩
 ·rename_i he;rw[Hx hk,h37]at h;simp at h;rw[<-h.1]at he;exact absurd (by decide) he
def YC(hk:k<s.length)(h37:bAt s k=37){x y:Nat}(hx:dgM (bAt s (k+1)).toNat=x)(hy:dgM (bAt s (k+2)).toNat=y)(b:UInt8)(r:Bs)(h:s.drop k=qtB b++r):b=UInt8.ofNat (16*x+y)/\s.drop (k+3)=r:=by
 obtain⟨_,e1,e2,e3⟩:=J1 hk h37 h;refine⟨?_,e3⟩;rw[hx]at e1;rw[hy]at e2;have hb:=b.toNat_lt;apply UInt8.toNat.inj;rw[UInt8.toNat_ofNat'];omega
def OS(c:Nat):dgM c<=15:=by unfold dgM;split<;>(try split)<;>omega
def TX.fail(h:TX s i ok j l k false):GG s i ok [] k false:=by
 refine⟨by have:=h.le;omega,λe=>(by cases e),λm r hok he=>?_⟩;have:=(h.full m r hok he).1;cases this
def TX.last(h:TX s i ok j l k true)(hq:Aw s k true [34]=true):s.drop k=34::s.drop (k+1):=(EJ.1 hq).2
def TX.body(h:TX s i ok j l k true):s.drop j=(s.drop j).take (k-j)++s.drop k:=K3 s h.le.2
def TX.right(h:TX s i ok j l k true)(hq:Aw s k true [34]=true)(he:qtM l=34::((s.drop j).take (k-j)++[34])):GG s i ok l (k+1) true:=by
 obtain⟨h1,h2,h3⟩:=h.top rfl;have e:s.drop i=qtM l++s.drop (k+1):=by
  have h4:=h.body;rw[h.last hq,h2]at h4;rw[h3,he,h2,List.cons_append,List.append_assoc];exact congrArg (34 :: ·) h4
 refine⟨by have:=h.le;omega,λ_=>⟨h1,e⟩,λm r hok hm=>⟨rfl,?_⟩⟩;rw[e]at hm;exact Ln hm
def TX.wrong(h:TX s i ok j l k true)(hq:Aw s k true [34]=true)(he:qtM l≠34::((s.drop j).take (k-j)++[34])):GG s i ok [] k false:=by
 refine⟨by have:=h.le;omega,λe=>(by cases e),λm r hok hm=>?_⟩;obtain⟨_,q,rfl,h2⟩:=h.full m r hok hm;obtain⟨h1,h3,h4⟩:=h.top rfl;have hl:=h.last hq;cases q with
 | cons b q=>
   rw[hl,fC,List.append_assoc]at h2;have h5:=Hs b;cases hb:qtB b with
   |nil=>rw[hb]at h5;simp at h5
   | cons x y=>
     have:=(Kz (b:=b) (x:=x) (by rw[hb];simp)).2.2;rw[hb]at h2;simp at h2;exact absurd h2.1.symm this
 | nil=>
   exfalso;apply he;rw[List.append_nil]at hm;have h5:=h.body;rw[h3,hl]at h5;rw[h4,h5,Du]at hm;simp only[List.cons_append,List.append_assoc,List.nil_append,List.cons.injEq,true_and]at hm;have h6:s.drop (k+1)=r:=by
    simp only[List.flatMap_nil,List.nil_append]at h2;rw[hl]at h2;simpa using h2
   rw[h6]at hm;have h7:=List.append_cancel_right hm;rw[Du,h3,h7]
end
end Go.Proofs.YtbjfaimkiclhgaaGreatDoor
