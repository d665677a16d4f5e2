/-
  QgI QgJ
-/
import Derived.Test.YtbjfaimkiclhgaaGreatDoorCt15
import Derived.Deep.CutRange
import Derived.Test.YtbjfaimkiclhgaaGreatDoorCt13
import Derived.Test.YtbjfaimkiclhgaaGreatDoorCt09
import Derived.Test.YtbjfaimkiclhgaaGreatDoorCt03
import Derived.Test.YtbjfaimkiclhgaaGreatDoorCt02
import Derived.Test.YtbjfaimkiclhgaaGreatDoorCt04
import Derived.Test.YtbjfaimkiclhgaaGreatDoorCt11
import Derived.Deep.Cut
import Derived.Laws.AppendOwn
import Derived.Laws.OwnMore
set_option linter.all false
set_option maxRecDepth 100000
set_option maxHeartbeats 8000000
namespace Go.Proofs.YtbjfaimkiclhgaaGreatDoor
open Go.Proofs.Tryz
open Go.RowKit
section
variable {w wr:World}{b:Nat}{tv wo:Value}{l:List Tok}{i:Nat}
def ReplQ(hn:Aj l)(day:Bs->Int)(n:Nat)(b:Nat)(tv wo:Value)(w:World)(L:Nat)(wd:Bs)(rest:List Bs×Fo->Rd l Sd)(R:Res Sd)(g:Nat)(wx:World):Prop:=
 (∃a j m,g=m+1/\(∃pv xv,KA b w L wx 13 wd [] a.1 a.2 .nil pv xv (.slice none 0 0))/\Par wx b tv wo l wordsL j/\a.1.length+m<=n/\a.2.len+m<=n/\((E8 hn wordsL day n a).bind λa=>(Rd.moreS [44] (E8 hn wordsL day n) m a).bind rest).f j=R)\/False
def PQ(hn:Aj l){day:Bs->Int}{n L:Nat}{wd:Bs}(hnn:n<=100000)(hE:CE 208 b tv wo l wordsL (Ai l day n))(hok:∀i,As (Ab l i))(hl:Ay l)(k:KA b w L wr 13 wd [] [] .nil .nil (.slice none 0 0) (.slice none 0 0) (.slice none 0 0))(h:Par wr b tv wo l wordsL i)(ho:(Ib hn day n wd).f i ≠ .out):
 Calls Tryz.prog 352 #[.pointer (some ⟨b,0,none⟩),.pointer (some ⟨L,0,none⟩)] wr (Post b tv wo l wordsL w (VIn b w L) ((Ib hn day n wd).f i)):=by
 have hb:=h.lt;have HO:=S ho;generalize hR:(Ib hn day n wd).f i=R at*;unfold Ib at hR;have HQ:=S hR;have HE:=S hE;have HTk:=S hok;have HSh:=S hl;have HK:=S k;have hp:=h;clear hE hok hl h ho hR k;go_enter func352,ntmps352;go_wp2_with fail;go_loopg [] (n+1) (λg wx=>ReplQ hn day n b tv wo w L wd (λa=>(Bz hn wordsL day n n Ck).bind λc=>Rd.pure (CU {sd0 13 wd with p:=a.1,x:=a.2} c)) R g wx)
 case atStart=>exact .inl ⟨([],.nil),i,n,rfl,⟨_,_,HK.1⟩,hp,by simp,by simp[Fo.len],HQ.1⟩
 case round=>
  obtain⟨a,j0,m,rfl,⟨pv,xv,hK⟩,hp1,hm1,hm2,hq⟩|hF:=hrel;rotate_left
  ·exact hF.elim
  have HK:=S hK;have hp:=hp1;have HQ:=S hq;clear hK hp1 hq;rw[Rd.bind_f]at HQ;have e0:=HQ.1;unfold E8 at e0;rw[Rd.name_f]at e0;replace HQ:=S e0;clear e0;have hkl:=HK.1.lt;have hx3:=HK.1.blk.cell' 3 rfl;cases hr6:AD l j0 with
  |out=>exact absurd (by rw[<-HQ.1,hr6];rfl) HO.1
  | bad q6=>
    go_wp2_with fail;go_region_with(go_at_call 247;refine(B6 (hp.gbN (Ae (Aa _ none))) HSh.1).mono ?_;rintro e w6 hq6;rw[hr6]at hq6;obtain⟨g6,rfl⟩:=hq6;refine Bx (P:=Tryz.prog) ⟨rfl,Post.bad (Z (Ae HK.1.gr) g6) (by rw[<-HQ.1,hr6];rfl)⟩ ⟨#[],[]⟩ w6 ?_);all_goals trivial
  |ok s j1=>
  rw[hr6,Res.bind_ok,Rd.must_f]at HQ;go_upto_region 0 with fail;go_cut []from 4 to 14 (λwx=>(∃pv' xv',KA b w L wx 13 wd [] (a.1++[s]) a.2 .nil pv' xv' (.slice none 0 0))/\Par wx b tv wo l wordsL j1)
  case first=>
   obtain⟨i0,hi0,hz0,hz1,hz2⟩:=info_parts Fe;have HI:=S (X hi0 (X hz0 (X hz1 hz2)));have hroom:=(show a.1.length<=200000 by omega);have hbL:=HK.1.bL;have hwL:=HK.1.wL;clear hi0 hz0 hz1 hz2;go_region_law(first
    | (refine step_append_lies _ (by rfl) _ _ 37 (by rfl) (w.heap.size+1) 9 i0 _ 1 16 underlying37 HI.1.1 HI.1.2.1 HI.1.2.2.1 HI.1.2.2.2 rfl (by decide) _ _ _ (by rfl) HB.1.1.p ⟨w6.heap.size,0,none⟩ 1 1 [str s] (by rfl) rfl (EN _ _ _) (by simp[Value.oneCell']) (by decide) (by unfold maxLen;omega) (by omega) (by simp<;>omega) _ rfl ?_;intro j cap w7 hown hgrow hat hlt;(have HK8:=S (X (HB.1.1.addP' hown hgrow hat) (Par.app HB.1.2 hgrow (λq hq=>(HB.1.1.belowP q hq).1) hbL 3 (.slice (some ⟨j,0,none⟩) (a.1.length+1) cap))));(have hb7:=HB.1.1.blk.gb hgrow HB.1.1.neP);(have f7:=hb7.frozen 3);(have d7:=hb7.cell' 3 rfl);(have l7:=hb7.lt);clear hown hgrow hat hb7 HB)
    | (go_simp;go_at_call 247;refine(B6 (hp.drewN 1) HSh.1).mono ?_;rintro e w6 hq6;rw[hr6]at hq6;obtain⟨g6,v,rfl,rfl,h6⟩:=hq6;(have k6:=HK.1.gb (Z (Ae (Aa _ _)) g6));(have l6:=k6.lt);(have d6:=k6.blk.cell' 3 rfl);(have s6:=g6.size);(have HB:=S (X (k6.alloc (.cells #[str s] 9 (0,0))) (h6.alloc (.cells #[str s] 9 (0,0)))));clear k6 h6 g6))
   all_goals
    go_wp2_with fail;go_meet
    case rel=>exact⟨⟨_,_,HK8.1.1⟩,HK8.1.2⟩
  case rest=>
  obtain⟨⟨pv2,xv2,hK⟩,hp1⟩:=hcut;replace HK:=S hK;replace hp:=hp1;clear hK hp1 hx3 hr6;have hkl:=HK.1.lt;go_wp2_with fail;refine(BJ hp HTk.1 GJ (by decide)).mono ?_;intro e w9 hq;obtain⟨g,⟨q,hr,rfl⟩| ⟨u,j2,v,hr,rfl,rfl,hp9⟩⟩:=hq.split
  ·exact⟨rfl,Post.bad (Z HK.1.gr g) (by rw[<-HQ.1,hr];rfl)⟩
  replace HK:=S (HK.1.gb g);replace hp:=hp9;clear hp9;rw[hr,Res.bind_ok]at HQ;clear hr g;rw[Rd.expr_f]at HQ;have hkl:=HK.1.lt;have hx4:=HK.1.blk.cell' 4 rfl;cases hr6:Ai l day n j2 with
  |out=>exact absurd (by rw[<-HQ.1,hr6];rfl) HO.1
  | bad q6=>
    go_wp2_with fail;obtain⟨i0,hi0,hz0,hz1,hz2⟩:=info_parts CI;have HI:=S (X hi0 (X hz0 (X hz1 hz2)));obtain⟨xa9,xc9,e9⟩:=HK.1.shapeX
    (first|subst e9|cases e9|clear e9);have hbL:=HK.1.bL;have hwL:=HK.1.wL;have hkl:=HK.1.lt;have hx4:=HK.1.blk.cell' 4 rfl;have n0:(0:Int)<=((a.2).len:Int):=by omega
    have n1:((a.2).len:Int)<(((a.2).len+1:Nat):Int):=by omega
    have n2:((a.2).len:Int)<((a.2).len:Int)+1:=by omega
    have kA:=(HK.1.gbN (Ae (Aa w9 none))).alloc (.cells zeroE.toArray 163 (0,0));obtain⟨csA,hoA,hrA⟩:=kA.x;have HA1:=S (X kA (X hoA (X hrA ((hp.drewN 1).alloc (.cells zeroE.toArray 163 (0,0))))));clear hi0 hz0 hz1 hz2 kA hoA hrA;go_region_law(first
     | (refine step_append_lies _ (by rfl) _ _ 129 (by rfl) ((w).heap.size+1) 163 i0 _ 7 104 underlying129 HI.1.1 HI.1.2.1 HI.1.2.2.1 HI.1.2.2.2 rfl (by decide) _ _ csA (by rfl) HA1.1.2.1 ⟨(w9).heap.size,0,none⟩ 1 1 zeroE (by rfl) rfl (AY _ _ _) (by simp[zeroE,Value.oneCell']) (by decide) (by unfold maxLen;omega) (by omega) (by first|omega| (simp<;>omega)) _ rfl ?_;intro j cap w7 hown hgrow hat hlt;(have HP1:=S (X (HA1.1.1.pend rfl HA1.1.2.1 HA1.1.2.2.1 hown hgrow hat) (HA1.1.2.2.2.gb hgrow (λq hq=>(HA1.1.1.belowX q hq).1))));(have f7:=(HA1.1.1.blk.gb hgrow HA1.1.1.neX).frozen 4);(have d7:=(HA1.1.1.blk.gb hgrow HA1.1.1.neX).cell' 4 rfl);(have l7:=HP1.1.1.lt);(have s7:=hgrow.size);(have bj7:=HP1.1.1.bj);clear hown hgrow hat)
     | (go_simp;go_at_call 208;refine(HE.1 _ _ HP1.1.2 (by rw[hr6];simp)).mono ?_;rintro e w8 hq8;rw[hr6]at hq8;obtain⟨g8,rfl⟩:=hq8;refine Bx (P:=Tryz.prog) ⟨rfl,Post.bad (Z HP1.1.1.gr g8) (by rw[<-HQ.1,hr6];rfl)⟩ ⟨#[],[]⟩ w8 ?_)
     | (go_simp;go_at_call 208;refine(HE.1 _ _ (HP1.1.2.gb (Am (Aa w7 (some L)) 4 (.slice (some ⟨j,0,none⟩) ((a.2).len+1) cap)) (by intro q e;cases e;omega)) (by rw[hr6];simp)).mono ?_;rintro e w8 hq8;rw[hr6]at hq8;obtain⟨g8,rfl⟩:=hq8;refine Bx (P:=Tryz.prog) ⟨rfl,Post.bad (Z (HP1.1.1.put4 (.slice (some ⟨j,0,none⟩) ((a.2).len+1) cap)).gr g8) (by rw[<-HQ.1,hr6];rfl)⟩ ⟨#[],[]⟩ w8 ?_)
     | (go_simp;go_at_call 208;refine(HE.1 _ _ (hp.drewN 1) (by rw[hr6];simp)).mono ?_;rintro e w8 hq8;rw[hr6]at hq8;obtain⟨g8,rfl⟩:=hq8;refine Bx (P:=Tryz.prog) ⟨rfl,Post.bad (Z (Ae HK.1.gr) g8) (by rw[<-HQ.1,hr6];rfl)⟩ ⟨#[],[]⟩ w8 ?_)
     | (go_simp;go_at_call 208;refine(HE.1 _ _ HA1.1.2.2.2 (by rw[hr6];simp)).mono ?_;rintro e w8 hq8;rw[hr6]at hq8;obtain⟨g8,rfl⟩:=hq8;refine Bx (P:=Tryz.prog) ⟨rfl,Post.bad (Z HA1.1.1.gr g8) (by rw[<-HQ.1,hr6];rfl)⟩ ⟨#[],[]⟩ w8 ?_))
    all_goals trivial
  |ok x j3=>
  rw[hr6,Res.bind_ok,Rd.pure_f,Res.bind_ok,Rd.bind_f]at HQ;go_upto_region 2 with fail;go_cut []from 17 to 28 (λwx=>(∃xv',KA b w L wx 13 wd [] (a.1++[s]) (a.2.snoc x) .nil pv2 xv' (.slice none 0 0))/\Par wx b tv wo l wordsL j3)
  case first=>
   obtain⟨i0,hi0,hz0,hz1,hz2⟩:=info_parts CI;have HI:=S (X hi0 (X hz0 (X hz1 hz2)));have hroom:=(show a.2.len<=200000 by omega);obtain⟨xa9,xc9,e9⟩:=HK.1.shapeX
   (first|subst e9|cases e9|clear e9);have hbL:=HK.1.bL;have hwL:=HK.1.wL;have hkl:=HK.1.lt;have hx4:=HK.1.blk.cell' 4 rfl;have n0:(0:Int)<=((a.2).len:Int):=by omega
   have n1:((a.2).len:Int)<(((a.2).len+1:Nat):Int):=by omega
   have n2:((a.2).len:Int)<((a.2).len:Int)+1:=by omega
   have HFr:=S (λq hq=>HK.1.fresh q hq);have kA:=(HK.1.gbN (Ae (Aa w9 none))).alloc (.cells zeroE.toArray 163 (0,0));obtain⟨csA,hoA,hrA⟩:=kA.x;have HA1:=S (X kA (X hoA (X hrA ((hp.drewN 1).alloc (.cells zeroE.toArray 163 (0,0))))));clear hi0 hz0 hz1 hz2 kA hoA hrA;go_region_law(first
    | (refine step_append_lies _ (by rfl) _ _ 129 (by rfl) ((w).heap.size+1) 163 i0 _ 7 104 underlying129 HI.1.1 HI.1.2.1 HI.1.2.2.1 HI.1.2.2.2 rfl (by decide) _ _ csB (by rfl) HA2.1.2.1 _ 1 1 zeroE (by rfl) rfl HZ2.1 (by simp[zeroE,Value.oneCell']) (by decide) (by unfold maxLen;omega) (by omega) (by first|omega| (simp<;>omega)) _ rfl ?_;intro j cap w7 hown hgrow hat hlt;(have HPF:=S (X (HA2.1.1.pend rfl HA2.1.2.1 HA2.1.2.2.1 hown hgrow hat) (HA2.1.2.2.2.1.gb hgrow (λq hq=>(HA2.1.1.belowX q hq).1))));(have HVF:=S (JA (f:=a.2) (cap:=cap) HA2.1.2.2.2.2.1 HA2.1.2.2.2.2.2 (λq hq _=>hq) HFr.1 hgrow hat));(have f7:=(HA2.1.1.blk.gb hgrow HA2.1.1.neX).frozen 4);(have d7:=(HA2.1.1.blk.gb hgrow HA2.1.1.neX).cell' 4 rfl);(have l7:=HPF.1.1.lt);(have bj7:=HPF.1.1.bj);(have nj7:=HPF.1.1.neL);(have fe7:=λi=>HPF.1.1.frozenE i);(obtain⟨u70,e70⟩:=HPF.1.1.cellE 0 (by decide));(obtain⟨u71,e71⟩:=HPF.1.1.cellE 1 (by decide));(obtain⟨u72,e72⟩:=HPF.1.1.cellE 2 (by decide));(obtain⟨u73,e73⟩:=HPF.1.1.cellE 3 (by decide));(obtain⟨u74,e74⟩:=HPF.1.1.cellE 4 (by decide));(obtain⟨u75,e75⟩:=HPF.1.1.cellE 5 (by decide));(obtain⟨u76,e76⟩:=HPF.1.1.cellE 6 (by decide));(try simp only[Nat.add_zero]at e70);clear hown hgrow hat)
    | (refine step_append_lies _ (by rfl) _ _ 129 (by rfl) ((w).heap.size+1) 163 i0 _ 7 104 underlying129 HI.1.1 HI.1.2.1 HI.1.2.2.1 HI.1.2.2.2 rfl (by decide) _ _ csA (by rfl) HA1.1.2.1 ⟨(w9).heap.size,0,none⟩ 1 1 zeroE (by rfl) rfl (AY _ _ _) (by simp[zeroE,Value.oneCell']) (by decide) (by unfold maxLen;omega) (by omega) (by first|omega| (simp<;>omega)) _ rfl ?_;intro j cap w7 hown hgrow hat hlt;(have HP1:=S (X (HA1.1.1.pend rfl HA1.1.2.1 HA1.1.2.2.1 hown hgrow hat) (HA1.1.2.2.2.gb hgrow (λq hq=>(HA1.1.1.belowX q hq).1))));(have f7:=(HA1.1.1.blk.gb hgrow HA1.1.1.neX).frozen 4);(have d7:=(HA1.1.1.blk.gb hgrow HA1.1.1.neX).cell' 4 rfl);(have l7:=HP1.1.1.lt);(have s7:=hgrow.size);(have bj7:=HP1.1.1.bj);clear hown hgrow hat)
    | (go_simp;go_at_call 208;refine(HE.1 _ _ HP1.1.2 (by rw[hr6];simp)).mono ?_;rintro e w8 hq6;rw[hr6]at hq6;obtain⟨g8,v,rfl,⟨pa6,pc6,la6,lc6,rfl,q1,q2⟩,h8⟩:=hq6;(have hKP:=HP1.1.1.gb g8);(have HPF:=S (X hKP h8));(have HVF:=S (X (q1.mono (λq hq _=>HP1.1.1.fresh q hq)) (q2.mono (λq hq _=>HP1.1.1.fresh q hq))));(have f8:=hKP.blk.frozen 4);(have d8:=hKP.blk.cell' 4 rfl);(have l8:=hKP.lt);(have bj8:=hKP.bj);(have nj8:=hKP.neL);(have fe8:=λi=>HPF.1.1.frozenE i);(obtain⟨u70,e70⟩:=HPF.1.1.cellE 0 (by decide));(obtain⟨u71,e71⟩:=HPF.1.1.cellE 1 (by decide));(obtain⟨u72,e72⟩:=HPF.1.1.cellE 2 (by decide));(obtain⟨u73,e73⟩:=HPF.1.1.cellE 3 (by decide));(obtain⟨u74,e74⟩:=HPF.1.1.cellE 4 (by decide));(obtain⟨u75,e75⟩:=HPF.1.1.cellE 5 (by decide));(obtain⟨u76,e76⟩:=HPF.1.1.cellE 6 (by decide));(try simp only[Nat.add_zero]at e70);clear hKP q1 q2 g8 h8)
    | (go_simp;go_at_call 208;refine(HE.1 _ _ (HP1.1.2.gb (Am (Aa w7 (some L)) 4 (.slice (some ⟨j,0,none⟩) ((a.2).len+1) cap)) (by intro q e;cases e;omega)) (by rw[hr6];simp)).mono ?_;rintro e w8 hq6;rw[hr6]at hq6;obtain⟨g8,v,rfl,⟨pa6,pc6,la6,lc6,rfl,q1,q2⟩,h8⟩:=hq6;(have hKP:=(HP1.1.1.put4 (.slice (some ⟨j,0,none⟩) ((a.2).len+1) cap)).gb g8);(have HPF:=S (X hKP h8));(have HVF:=S (X (q1.mono (λq hq _=>(HP1.1.1.put4 (.slice (some ⟨j,0,none⟩) ((a.2).len+1) cap)).fresh q hq)) (q2.mono (λq hq _=>(HP1.1.1.put4 (.slice (some ⟨j,0,none⟩) ((a.2).len+1) cap)).fresh q hq))));(have bj8:=hKP.bj);(have nj8:=hKP.neL);(have l8:=hKP.lt);(have fe8:=λi=>HPF.1.1.frozenE i);(obtain⟨u70,e70⟩:=HPF.1.1.cellE 0 (by decide));(obtain⟨u71,e71⟩:=HPF.1.1.cellE 1 (by decide));(obtain⟨u72,e72⟩:=HPF.1.1.cellE 2 (by decide));(obtain⟨u73,e73⟩:=HPF.1.1.cellE 3 (by decide));(obtain⟨u74,e74⟩:=HPF.1.1.cellE 4 (by decide));(obtain⟨u75,e75⟩:=HPF.1.1.cellE 5 (by decide));(obtain⟨u76,e76⟩:=HPF.1.1.cellE 6 (by decide));(try simp only[Nat.add_zero]at e70);clear hKP q1 q2 g8 h8)
    | (go_simp;go_at_call 208;refine(HE.1 _ _ (hp.drewN 1) (by rw[hr6];simp)).mono ?_;rintro e w6 hq6;rw[hr6]at hq6;obtain⟨g6,v,rfl,⟨pa6,pc6,la6,lc6,rfl,q1,q2⟩,h6⟩:=hq6;(have k6:=HK.1.gb (Z (Ae (Aa _ _)) g6));(have l6:=k6.lt);(have s6:=g6.size);(have d6:=k6.blk.cell' 4 rfl);(have k7:=k6.alloc (.cells zeroE.toArray 163 (0,0)));(obtain⟨csB,ho6,hr7⟩:=k7.x);(have gA:=gZ w6 (.cells zeroE.toArray 163 (0,0)) none);(have HA2:=S (X k7 (X ho6 (X hr7 (X (h6.alloc (.cells zeroE.toArray 163 (0,0))) (X (q1.gb gA (by simp)) (q2.gb gA (by simp))))))));(have HZ2:=S (AY w6 zeroE 163));clear k6 k7 ho6 hr7 gA q1 q2 h6 g6)
    | (go_simp;go_at_call 208;refine(HE.1 _ _ HA1.1.2.2.2 (by rw[hr6];simp)).mono ?_;rintro e w6 hq6;rw[hr6]at hq6;obtain⟨g6,v,rfl,⟨pa6,pc6,la6,lc6,rfl,q1,q2⟩,h6⟩:=hq6;(have k6:=HA1.1.1.gb g6);(have l6:=k6.lt);(have s6:=g6.size);(have d6:=k6.blk.cell' 4 rfl);(obtain⟨csB,ho6,hr7⟩:=k6.x);(have HA2:=S (X k6 (X ho6 (X hr7 (X h6 (X (q1.mono (ok':=Al (w9).heap.size) (λq hq _=>Nat.le_of_succ_le (by simpa using hq))) (q2.mono (ok':=Al (w9).heap.size) (λq hq _=>Nat.le_of_succ_le (by simpa using hq)))))))));(have HZ2:=S (show ∀i u,zeroE[i]? =some u->w6.cell? ((⟨(w9).heap.size,0,none⟩:Addr).add i)=some u from λi u hu=>KG (((Blk.new (World.drew w9) zeroE 163).gb g6 (by simp;omega)).cell' i hu)));clear k6 ho6 hr7 q1 q2 h6 g6))
   all_goals
    go_wp2_with fail;go_meet
    case rel=>
     show(∃xv',KA b w L _ 13 wd [] (a.1++[s]) (a.2.snoc x) .nil pv2 xv' (.slice none 0 0))/\Par _ b tv wo l wordsL j3;have hE1:=HPF.1.1.endQ1 HPF.1.2 HVF.1.1 HVF.1.2;have hE2:=HPF.1.1.endQ2 HPF.1.2 HVF.1.1 HVF.1.2;simp only[D1]at hE1 hE2;first
     |exact⟨⟨_,by with_reducible exact hE1.1⟩,by with_reducible exact hE1.2⟩
     |exact⟨⟨_,by with_reducible exact hE2.1⟩,by with_reducible exact hE2.2⟩
  case rest=>
  obtain⟨⟨xv3,hK⟩,hp1⟩:=hcut;replace HK:=S hK;replace hp:=hp1;clear hK hp1 hx4 hr6;generalize hWW:wc=W8 at*;clear hWW;cases m with
  |zero=>exact absurd HQ.1.symm HO.1
  |succ m=>
  rw[Rd.moreS_f]at HQ;have hkl:=HK.1.lt;cases hs:Ah (Ab l j3) [44]with
  | true=>
    go_wp2_with fail;refine(Bp hp [44] hs).mono ?_;rintro e w12 ⟨rfl,hp9,g⟩;replace HK:=S (HK.1.gb g);replace hp:=hp9;clear g hp9;rw[if_pos hs]at HQ;clear hs;rw[Rd.bind_f,Res.bind_assoc]at HQ;go_wp2;go_roundg (m+1)
    case measure=>omega
    case rel=>exact .inl ⟨(a.1++[s],a.2.snoc x),_,m,rfl,⟨_,_,HK.1⟩,hp,by simp;omega,by simp[Fo.len_snoc];omega,HQ.1⟩
  | false=>
    go_wp2_with fail;refine mR (Bf hp [44] hs) λw12 g=>?_;replace HK:=S (HK.1.gbN g);replace hp:=hp.gbN g;clear g;rw[if_neg (nF hs)]at HQ;clear hs;rw[Res.bind_ok,Rd.bind_f]at HQ;replace HK:=S HK.1.toKS;go_wp2_with fail;have hkl:=HK.1.lt;have hwL:=HK.1.wL;have hbw:=HK.1.bw;refine(Gs hn HE.1 HTk.1 hp (λe=>HO.1 (by rw[<-HQ.1,e];rfl))).mono ?_;intro e w20 hq;obtain⟨g20,⟨q,hr,rfl⟩| ⟨c,j20,v,hr,rfl,⟨na,fa,wa,nc,fc,wc,rfl,rn,rf,rw0⟩,h20⟩⟩:=hq.split
    ·exact⟨rfl,Post.bad (Z HK.1.gr g20) (by rw[<-HQ.1,hr];rfl)⟩
    rw[hr,Res.bind_ok]at HQ;clear hr;have hK20:=HK.1.gb g20;have hkl20:=hK20.lt;have d6:=hK20.blk.cell' 6 rfl;have d7:=hK20.blk.cell' 7 rfl;have d8:=hK20.blk.cell' 8 rfl;have d9:=hK20.blk.cell' 9 rfl;have ff:=λi=>hK20.blk.frozen i;have hfr:∀q,Al (w12).heap.size q->q<w20.heap.size->but w L q:=λq hq _=>by have h1:(w12).heap.size<=q:=hq;(try simp at h1);exact⟨by omega,by omega⟩
    have HK20:=S (hK20.putC (rn.mono hfr) (rf.mono hfr) (rw0.mono hfr) _ rfl);have HP20:=S (h20.putC (L:=L) (by omega) (.int .i64 c.kind) (.slice na c.n.len nc) (.slice fa c.f.len fc) (.slice wa c.w.len wc));clear hK20 g20 h20 rn rf rw0 hfr HK hp;rw[Rd.pure_f]at HQ;go_wp2;go_end0;exact Post.ok HK20.1.gr HQ.1.symm ⟨rfl,_,_,_,_,_,HK20.1⟩ HP20.1
end
variable{w wr:World}{b i n L:Nat}{tv wo:Value}{l:List Tok}{day:Bs->Int}{wd:Bs}
def KQ{l:List Tok}(hn:Aj l)(wd p:Bs)(f:Fo):Rd l Sd:=
 (Rd.here wordsL).bind λw=>(if w=Hr\/w=GT then Rd.skip.bind λ_=>Rd.pure w else Rd.pure []).bind λt=>
  (Rd.ifw wordsL CO (Rd.pure [p,CO]) (Rd.pure [p])).bind λps=>Rd.pure {sd0 13 wd with p:=ps,x:=f,t:=t}
def Vf(h:Par w b tv wo l wordsL i)(hok:∀i,As (Ab l i))(s:Bs)(hs:s≠[]):
 Calls Tryz.prog 245 #[.pointer (some ⟨b,0,none⟩),str s] w λe w'=>e= .returned (.bool (Ar l wordsL i==s))/\Par w' b tv wo l wordsL (if Ar l wordsL i==s then i+1 else i)/\w.grownBy w' (some b):=by
 cases hw:Ar l wordsL i==s with
 |true=>exact(Di h hok s hs hw).mono λe w' ⟨h1,h2,h3⟩=>⟨h1,h2,h3⟩
 |false=>exact(Df h hok s hw).mono λe w' ⟨h1,h2⟩=>⟨h1,h.gbN h2,A2 h2⟩
def Sx(hn:Aj l)(hE:CE 208 b tv wo l wordsL (Ai l day n))(hok:∀i,As (Ab l i))(hl:Ay l)(k:KA b w L wr 13 wd [] [] .nil .nil (.slice none 0 0) (.slice none 0 0) (.slice none 0 0))(h:Par wr b tv wo l wordsL i)(ho:(Fv hn wordsL day n (sd0 13 wd)).f i ≠ .out):
 Calls Tryz.prog 353 #[.pointer (some ⟨b,0,none⟩),.pointer (some ⟨L,0,none⟩)] wr (Post b tv wo l wordsL w (VIn b w L) ((Fv hn wordsL day n (sd0 13 wd)).f i)):=by
 have hb:=h.lt;have HO:=S ho;generalize hR:(Fv hn wordsL day n (sd0 13 wd)).f i=R at*;unfold Fv at hR;rw[Rd.must_f]at hR;have HQ:=S hR;have HE:=S hE;have HTk:=S hok;have HSh:=S hl;have HK:=S k;have hp:=h;clear hE hok hl h ho hR k;go_enter func353,ntmps353;go_wp2_with fail;refine(BJ hp HTk.1 wON (by decide)).mono ?_;intro e w1 hq;obtain⟨g,⟨q,hr,rfl⟩| ⟨u,i1,v,hr,rfl,rfl,hp9⟩⟩:=hq.split
 ·exact⟨rfl,Post.bad (Z HK.1.gr g) (by rw[<-HQ.1,hr];rfl)⟩
 replace HK:=S (HK.1.gb g);replace hp:=hp9;clear hp9;rw[hr,Res.bind_ok]at HQ;clear hr g;rw[Rd.expr_f]at HQ;have hkl:=HK.1.lt;have hwL:=HK.1.wL;have hbL:=HK.1.bL;have HFr:=S (λq hq=>HK.1.fresh q hq);go_wp2_with fail;refine(HE.1 _ _ hp (λe=>HO.1 (by rw[<-HQ.1,e];rfl))).mono ?_;intro e w2 hq;obtain⟨g,⟨q,hr,rfl⟩| ⟨x,i2,v,hr,rfl,⟨pa,pc,la,lc,rfl,rp,rl⟩,hp9⟩⟩:=hq.split
 ·exact⟨rfl,Post.bad (Z HK.1.gr g) (by rw[<-HQ.1,hr];rfl)⟩
 replace HK:=S (HK.1.gb g);replace hp:=hp9;clear hp9;rw[hr,Res.bind_ok]at HQ;clear hr;have hkl2:=HK.1.lt;have d2:=HK.1.blk.cell' 4 rfl;have f2:=HK.1.blk.frozen 4;have hp3:=(hp.set (L:=L) hbL 4 (.slice (some ⟨w2.heap.size,0,none⟩) 1 1)).alloc (.cells (hdC x.h (.slice pa x.h.p.length pc) (.slice la x.kids.len lc)).toArray 163 (0,0));have hK3:=HK.1.layX rp rl (λq hq=>HFr.1 q hq);replace HK:=S hK3;replace hp:=hp3;clear hK3 hp3 g rp rl HFr;rw[Rd.must_f]at HQ;go_wp2_with fail;refine(BJ hp HTk.1 wTAG (by decide)).mono ?_;intro e w4 hq;obtain⟨g,⟨q,hr,rfl⟩| ⟨u,i4,v,hr,rfl,rfl,hp9⟩⟩:=hq.split
 ·exact⟨rfl,Post.bad (Z HK.1.gr g) (by rw[<-HQ.1,hr];rfl)⟩
 replace HK:=S (HK.1.gb g);replace hp:=hp9;clear hp9;rw[hr,Res.bind_ok]at HQ;clear hr g d2 f2;rw[Rd.name_f]at HQ;have hkl:=HK.1.lt;go_wp2_with fail;refine(B6 hp HSh.1).mono ?_;intro e w5 hq;obtain⟨g,⟨q,hr,rfl⟩| ⟨p,i5,v,hr,rfl,rfl,hp9⟩⟩:=hq.split
 ·exact⟨rfl,Post.bad (Z HK.1.gr g) (by rw[<-HQ.1,hr];rfl)⟩
 replace HK:=S (HK.1.gb g);replace hp:=hp9;clear hp9;rw[hr,Res.bind_ok]at HQ;clear hr g;have hkl5:=HK.1.lt;have d3:=HK.1.blk.cell' 3 rfl;have f3:=HK.1.blk.frozen 3;have hp6:=(hp.set (L:=L) hbL 3 (.slice (some ⟨w5.heap.size,0,none⟩) 1 1)).alloc (.cells #[str p] 9 (0,0));have hK6:=HK.1.layP p;have HW:=S (Vf hp6 HTk.1 CQ (by decide));replace HK:=S hK6;clear hK6 hp6 hp;go_wp2_with fail;refine HW.1.mono ?_;rintro e w7 ⟨rfl,hp9,g7⟩;have hp:=hp9;clear hp9;replace HK:=S (HK.1.gb g7);clear g7 HW d3 f3;generalize hsl1:Value.slice (some ⟨w5.heap.size,0,none⟩) 1 1=pv at*;clear hsl1;generalize hsl2:Value.slice (some ⟨w2.heap.size,0,none⟩) 1 1=xv at*;clear hsl2;rw[Rd.bind_f,Rd.ifw_f]at HQ;generalize hwr:(Ar l wordsL i5==CQ)=ok at*;clear hwr;go_upto_if 22 with fail
 go_cut []from 5 (λwx=>∃xv' f j,KA b w L wx 13 wd [] [p] f .nil pv xv' (.slice none 0 0)/\Par wx b tv wo l wordsL j/\(KQ hn wd p f).f j=R)
 case first=>
  cases ok with
  | false=>
    rw[if_neg (nF (show(false:Bool)=false from rfl)),Rd.pure_f,Res.bind_ok]at HQ;go_wp2;go_meet
    case rel=>exact⟨_,_,_,HK.1,hp,HQ.1⟩
  | true=>
    rw[if_pos (rfl:true=true)]at HQ;have hp1:Par w7 b tv wo l wordsL (i5+1):=hp;replace hp:=hp1;clear hp1;have e0:Res.bind (Res.bind (Ai l day n (i5+1)) _) _=R:=HQ.1;replace HQ:=S e0;clear e0;have hkl:=HK.1.lt;have hx4:=HK.1.blk.cell' 4 rfl;cases hr6:Ai l day n (i5+1)with
    |out=>exact absurd (by rw[<-HQ.1,hr6];rfl) HO.1
    | bad q6=>
      go_upto_region 5 with fail;obtain⟨i0,hi0,hz0,hz1,hz2⟩:=info_parts CI;have HI:=S (X hi0 (X hz0 (X hz1 hz2)));obtain⟨xa9,xc9,e9⟩:=HK.1.shapeX
      (first|subst e9|cases e9|clear e9);have hbL:=HK.1.bL;have hwL:=HK.1.wL;have hkl:=HK.1.lt;have hx4:=HK.1.blk.cell' 4 rfl;have n0:(0:Int)<=(((Fo.one x)).len:Int):=by omega
      have n1:(((Fo.one x)).len:Int)<((((Fo.one x)).len+1:Nat):Int):=by omega
      have n2:(((Fo.one x)).len:Int)<(((Fo.one x)).len:Int)+1:=by omega
      have kA:=(HK.1.gbN (Ae (Aa w7 none))).alloc (.cells zeroE.toArray 163 (0,0));obtain⟨csA,hoA,hrA⟩:=kA.x;have HA1:=S (X kA (X hoA (X hrA ((hp.drewN 1).alloc (.cells zeroE.toArray 163 (0,0))))));clear hi0 hz0 hz1 hz2 kA hoA hrA;go_region_law(first
       | (refine step_append_lies _ (by rfl) _ _ 129 (by rfl) ((w).heap.size+1) 163 i0 _ 7 104 underlying129 HI.1.1 HI.1.2.1 HI.1.2.2.1 HI.1.2.2.2 rfl (by decide) _ _ csA (by rfl) HA1.1.2.1 ⟨(w7).heap.size,0,none⟩ 1 1 zeroE (by rfl) rfl (AY _ _ _) (by simp[zeroE,Value.oneCell']) (by decide) (by unfold maxLen;omega) (by omega) (by first|omega| (simp<;>omega)) _ rfl ?_;intro j cap w7 hown hgrow hat hlt;(have HP1:=S (X (HA1.1.1.pend rfl HA1.1.2.1 HA1.1.2.2.1 hown hgrow hat) (HA1.1.2.2.2.gb hgrow (λq hq=>(HA1.1.1.belowX q hq).1))));(have f7:=(HA1.1.1.blk.gb hgrow HA1.1.1.neX).frozen 4);(have d7:=(HA1.1.1.blk.gb hgrow HA1.1.1.neX).cell' 4 rfl);(have l7:=HP1.1.1.lt);(have s7:=hgrow.size);(have bj7:=HP1.1.1.bj);clear hown hgrow hat)
       | (go_simp;go_at_call 208;refine(HE.1 _ _ HP1.1.2 (by rw[hr6];simp)).mono ?_;rintro e w8 hq8;rw[hr6]at hq8;obtain⟨g8,rfl⟩:=hq8;refine Bx (P:=Tryz.prog) ⟨rfl,Post.bad (Z HP1.1.1.gr g8) (by rw[<-HQ.1,hr6];rfl)⟩ ⟨#[],[]⟩ w8 ?_)
       | (go_simp;go_at_call 208;refine(HE.1 _ _ (HP1.1.2.gb (Am (Aa w7 (some L)) 4 (.slice (some ⟨j,0,none⟩) (((Fo.one x)).len+1) cap)) (by intro q e;cases e;omega)) (by rw[hr6];simp)).mono ?_;rintro e w8 hq8;rw[hr6]at hq8;obtain⟨g8,rfl⟩:=hq8;refine Bx (P:=Tryz.prog) ⟨rfl,Post.bad (Z (HP1.1.1.put4 (.slice (some ⟨j,0,none⟩) (((Fo.one x)).len+1) cap)).gr g8) (by rw[<-HQ.1,hr6];rfl)⟩ ⟨#[],[]⟩ w8 ?_)
       | (go_simp;go_at_call 208;refine(HE.1 _ _ (hp.drewN 1) (by rw[hr6];simp)).mono ?_;rintro e w8 hq8;rw[hr6]at hq8;obtain⟨g8,rfl⟩:=hq8;refine Bx (P:=Tryz.prog) ⟨rfl,Post.bad (Z (Ae HK.1.gr) g8) (by rw[<-HQ.1,hr6];rfl)⟩ ⟨#[],[]⟩ w8 ?_)
       | (go_simp;go_at_call 208;refine(HE.1 _ _ HA1.1.2.2.2 (by rw[hr6];simp)).mono ?_;rintro e w8 hq8;rw[hr6]at hq8;obtain⟨g8,rfl⟩:=hq8;refine Bx (P:=Tryz.prog) ⟨rfl,Post.bad (Z HA1.1.1.gr g8) (by rw[<-HQ.1,hr6];rfl)⟩ ⟨#[],[]⟩ w8 ?_))
      all_goals trivial
    |ok y j6=>
    rw[hr6,Res.bind_ok]at HQ;go_upto_region 5 with fail;obtain⟨i0,hi0,hz0,hz1,hz2⟩:=info_parts CI;have HI:=S (X hi0 (X hz0 (X hz1 hz2)));have hroom:=(show(Fo.one x).len<=5 by simp[Fo.one,Ex.fo,Fo.len]);obtain⟨xa9,xc9,e9⟩:=HK.1.shapeX
    (first|subst e9|cases e9|clear e9);have hbL:=HK.1.bL;have hwL:=HK.1.wL;have hkl:=HK.1.lt;have hx4:=HK.1.blk.cell' 4 rfl;have n0:(0:Int)<=(((Fo.one x)).len:Int):=by omega
    have n1:(((Fo.one x)).len:Int)<((((Fo.one x)).len+1:Nat):Int):=by omega
    have n2:(((Fo.one x)).len:Int)<(((Fo.one x)).len:Int)+1:=by omega
    have HFr:=S (λq hq=>HK.1.fresh q hq);have kA:=(HK.1.gbN (Ae (Aa w7 none))).alloc (.cells zeroE.toArray 163 (0,0));obtain⟨csA,hoA,hrA⟩:=kA.x;have HA1:=S (X kA (X hoA (X hrA ((hp.drewN 1).alloc (.cells zeroE.toArray 163 (0,0))))));clear hi0 hz0 hz1 hz2 kA hoA hrA;go_region_law(first
     | (refine step_append_lies _ (by rfl) _ _ 129 (by rfl) ((w).heap.size+1) 163 i0 _ 7 104 underlying129 HI.1.1 HI.1.2.1 HI.1.2.2.1 HI.1.2.2.2 rfl (by decide) _ _ csB (by rfl) HA2.1.2.1 _ 1 1 zeroE (by rfl) rfl HZ2.1 (by simp[zeroE,Value.oneCell']) (by decide) (by unfold maxLen;omega) (by omega) (by first|omega| (simp<;>omega)) _ rfl ?_;intro j cap w7 hown hgrow hat hlt;(have HPF:=S (X (HA2.1.1.pend rfl HA2.1.2.1 HA2.1.2.2.1 hown hgrow hat) (HA2.1.2.2.2.1.gb hgrow (λq hq=>(HA2.1.1.belowX q hq).1))));(have HVF:=S (JA (f:=(Fo.one x)) (cap:=cap) HA2.1.2.2.2.2.1 HA2.1.2.2.2.2.2 (λq hq _=>hq) HFr.1 hgrow hat));(have f7:=(HA2.1.1.blk.gb hgrow HA2.1.1.neX).frozen 4);(have d7:=(HA2.1.1.blk.gb hgrow HA2.1.1.neX).cell' 4 rfl);(have l7:=HPF.1.1.lt);(have bj7:=HPF.1.1.bj);(have nj7:=HPF.1.1.neL);(have fe7:=λi=>HPF.1.1.frozenE i);(obtain⟨u70,e70⟩:=HPF.1.1.cellE 0 (by decide));(obtain⟨u71,e71⟩:=HPF.1.1.cellE 1 (by decide));(obtain⟨u72,e72⟩:=HPF.1.1.cellE 2 (by decide));(obtain⟨u73,e73⟩:=HPF.1.1.cellE 3 (by decide));(obtain⟨u74,e74⟩:=HPF.1.1.cellE 4 (by decide));(obtain⟨u75,e75⟩:=HPF.1.1.cellE 5 (by decide));(obtain⟨u76,e76⟩:=HPF.1.1.cellE 6 (by decide));(try simp only[Nat.add_zero]at e70);clear hown hgrow hat)
     | (refine step_append_lies _ (by rfl) _ _ 129 (by rfl) ((w).heap.size+1) 163 i0 _ 7 104 underlying129 HI.1.1 HI.1.2.1 HI.1.2.2.1 HI.1.2.2.2 rfl (by decide) _ _ csA (by rfl) HA1.1.2.1 ⟨(w7).heap.size,0,none⟩ 1 1 zeroE (by rfl) rfl (AY _ _ _) (by simp[zeroE,Value.oneCell']) (by decide) (by unfold maxLen;omega) (by omega) (by first|omega| (simp<;>omega)) _ rfl ?_;intro j cap w7 hown hgrow hat hlt;(have HP1:=S (X (HA1.1.1.pend rfl HA1.1.2.1 HA1.1.2.2.1 hown hgrow hat) (HA1.1.2.2.2.gb hgrow (λq hq=>(HA1.1.1.belowX q hq).1))));(have f7:=(HA1.1.1.blk.gb hgrow HA1.1.1.neX).frozen 4);(have d7:=(HA1.1.1.blk.gb hgrow HA1.1.1.neX).cell' 4 rfl);(have l7:=HP1.1.1.lt);(have s7:=hgrow.size);(have bj7:=HP1.1.1.bj);clear hown hgrow hat)
     | (go_simp;go_at_call 208;refine(HE.1 _ _ HP1.1.2 (by rw[hr6];simp)).mono ?_;rintro e w8 hq6;rw[hr6]at hq6;obtain⟨g8,v,rfl,⟨pa6,pc6,la6,lc6,rfl,q1,q2⟩,h8⟩:=hq6;(have hKP:=HP1.1.1.gb g8);(have HPF:=S (X hKP h8));(have HVF:=S (X (q1.mono (λq hq _=>HP1.1.1.fresh q hq)) (q2.mono (λq hq _=>HP1.1.1.fresh q hq))));(have f8:=hKP.blk.frozen 4);(have d8:=hKP.blk.cell' 4 rfl);(have l8:=hKP.lt);(have bj8:=hKP.bj);(have nj8:=hKP.neL);(have fe8:=λi=>HPF.1.1.frozenE i);(obtain⟨u70,e70⟩:=HPF.1.1.cellE 0 (by decide));(obtain⟨u71,e71⟩:=HPF.1.1.cellE 1 (by decide));(obtain⟨u72,e72⟩:=HPF.1.1.cellE 2 (by decide));(obtain⟨u73,e73⟩:=HPF.1.1.cellE 3 (by decide));(obtain⟨u74,e74⟩:=HPF.1.1.cellE 4 (by decide));(obtain⟨u75,e75⟩:=HPF.1.1.cellE 5 (by decide));(obtain⟨u76,e76⟩:=HPF.1.1.cellE 6 (by decide));(try simp only[Nat.add_zero]at e70);clear hKP q1 q2 g8 h8)
     | (go_simp;go_at_call 208;refine(HE.1 _ _ (HP1.1.2.gb (Am (Aa w7 (some L)) 4 (.slice (some ⟨j,0,none⟩) (((Fo.one x)).len+1) cap)) (by intro q e;cases e;omega)) (by rw[hr6];simp)).mono ?_;rintro e w8 hq6;rw[hr6]at hq6;obtain⟨g8,v,rfl,⟨pa6,pc6,la6,lc6,rfl,q1,q2⟩,h8⟩:=hq6;(have hKP:=(HP1.1.1.put4 (.slice (some ⟨j,0,none⟩) (((Fo.one x)).len+1) cap)).gb g8);(have HPF:=S (X hKP h8));(have HVF:=S (X (q1.mono (λq hq _=>(HP1.1.1.put4 (.slice (some ⟨j,0,none⟩) (((Fo.one x)).len+1) cap)).fresh q hq)) (q2.mono (λq hq _=>(HP1.1.1.put4 (.slice (some ⟨j,0,none⟩) (((Fo.one x)).len+1) cap)).fresh q hq))));(have bj8:=hKP.bj);(have nj8:=hKP.neL);(have l8:=hKP.lt);(have fe8:=λi=>HPF.1.1.frozenE i);(obtain⟨u70,e70⟩:=HPF.1.1.cellE 0 (by decide));(obtain⟨u71,e71⟩:=HPF.1.1.cellE 1 (by decide));(obtain⟨u72,e72⟩:=HPF.1.1.cellE 2 (by decide));(obtain⟨u73,e73⟩:=HPF.1.1.cellE 3 (by decide));(obtain⟨u74,e74⟩:=HPF.1.1.cellE 4 (by decide));(obtain⟨u75,e75⟩:=HPF.1.1.cellE 5 (by decide));(obtain⟨u76,e76⟩:=HPF.1.1.cellE 6 (by decide));(try simp only[Nat.add_zero]at e70);clear hKP q1 q2 g8 h8)
     | (go_simp;go_at_call 208;refine(HE.1 _ _ (hp.drewN 1) (by rw[hr6];simp)).mono ?_;rintro e w6 hq6;rw[hr6]at hq6;obtain⟨g6,v,rfl,⟨pa6,pc6,la6,lc6,rfl,q1,q2⟩,h6⟩:=hq6;(have k6:=HK.1.gb (Z (Ae (Aa _ _)) g6));(have l6:=k6.lt);(have s6:=g6.size);(have d6:=k6.blk.cell' 4 rfl);(have k7:=k6.alloc (.cells zeroE.toArray 163 (0,0)));(obtain⟨csB,ho6,hr7⟩:=k7.x);(have gA:=gZ w6 (.cells zeroE.toArray 163 (0,0)) none);(have HA2:=S (X k7 (X ho6 (X hr7 (X (h6.alloc (.cells zeroE.toArray 163 (0,0))) (X (q1.gb gA (by simp)) (q2.gb gA (by simp))))))));(have HZ2:=S (AY w6 zeroE 163));clear k6 k7 ho6 hr7 gA q1 q2 h6 g6)
     | (go_simp;go_at_call 208;refine(HE.1 _ _ HA1.1.2.2.2 (by rw[hr6];simp)).mono ?_;rintro e w6 hq6;rw[hr6]at hq6;obtain⟨g6,v,rfl,⟨pa6,pc6,la6,lc6,rfl,q1,q2⟩,h6⟩:=hq6;(have k6:=HA1.1.1.gb g6);(have l6:=k6.lt);(have s6:=g6.size);(have d6:=k6.blk.cell' 4 rfl);(obtain⟨csB,ho6,hr7⟩:=k6.x);(have HA2:=S (X k6 (X ho6 (X hr7 (X h6 (X (q1.mono (ok':=Al (w7).heap.size) (λq hq _=>Nat.le_of_succ_le (by simpa using hq))) (q2.mono (ok':=Al (w7).heap.size) (λq hq _=>Nat.le_of_succ_le (by simpa using hq)))))))));(have HZ2:=S (show ∀i u,zeroE[i]? =some u->w6.cell? ((⟨(w7).heap.size,0,none⟩:Addr).add i)=some u from λi u hu=>KG (((Blk.new (World.drew w7) zeroE 163).gb g6 (by simp;omega)).cell' i hu)));clear k6 ho6 hr7 q1 q2 h6 g6))
    all_goals
     go_wp2_with fail;go_meet
     case rel=>
      show ∃xv' f j,KA b w L _ 13 wd [] [p] f .nil pv xv' (.slice none 0 0)/\Par _ b tv wo l wordsL j/\(KQ hn wd p f).f j=R;have hE1:=HPF.1.1.endQ1 HPF.1.2 HVF.1.1 HVF.1.2;have hE2:=HPF.1.1.endQ2 HPF.1.2 HVF.1.1 HVF.1.2;simp only[D1]at hE1 hE2;have hq9:=HQ.1;first
      |exact⟨_,(Fo.one x).snoc y,j6,by with_reducible exact hE1.1,by with_reducible exact hE1.2,hq9⟩
      |exact⟨_,(Fo.one x).snoc y,j6,by with_reducible exact hE2.1,by with_reducible exact hE2.2,hq9⟩
 case rest=>
  obtain⟨xv',f,j7,hK,hp1,hq⟩:=hcut;replace HK:=S hK;replace hp:=hp1;have e0:=hq;unfold KQ at e0;rw[Rd.here_f]at e0;replace HQ:=S e0;have HI:=S (λh=>CV (l:=l) (W:=wordsL) (i:=j7) h);clear hK hp1 hq e0;have HA:=S (Bn hp);go_wp2_with fail;refine mR HA.1 λw8 g8=>?_;replace HK:=S (HK.1.gb (A2 g8));replace hp:=hp.gbN g8;clear g8 HA;go_wp2_with fail;refine mR (Fc hp HTk.1 j7) λw9 g9=>?_;replace HK:=S (HK.1.gb (A2 g9));replace hp:=hp.gbN g9;clear g9;generalize Ar l wordsL j7=s at*;have hkl:=HK.1.lt;have hus:(s=Hr\/s=GT)\/¬(s=Hr\/s=GT):=Classical.em _;rcases hus with hus|hus
  ·have hi:=HI.1 (by rcases hus with rfl|rfl<;>decide);rw[if_pos hus,Rd.bind_f,Rd.skip_f,Rd.pure_f,Res.bind_ok]at HQ;rcases hus with rfl|rfl
   all_goals
    have c1:=hp.c1;have f1:=hp.f1;have hbl9:=hp.lt;have hfew9:=hp.few;have hgI:=Am (Aa w9 (some b)) 1 (.int .i64 ((j7:Int)+1));have HPI:=S (hp.goI ((j7:Int)+1) (j7+1) (by omega) (by omega));have HKI:=S (HK.1.gb hgI);clear hgI;have d2:=HK.1.blk.cell' 2 rfl;have f2:=HK.1.blk.frozen 2;have HF:=S (λs2=>X (HKI.1.putT s2) (HPI.1.set (L:=L) hbL 2 (str s2)));clear HKI HPI;go_upto_region 10 with fail;refine Ax (λW=>(∃t,t=_/\KA b w L W 13 wd t [p] f .nil pv xv' (.slice none 0 0))/\Par W b tv wo l wordsL (j7+1)) ⟨⟨_,rfl,(HF.1 _).1⟩,(HF.1 _).2⟩ ?_;rintro W3 ⟨⟨t,rfl,hK⟩,hp3⟩;replace HK:=S hK;replace hp:=hp3;clear hK hp3 HF d2 f2 c1 f1;rw[Rd.bind_f,Rd.ifw_f]at HQ;have hkl:=HK.1.lt;cases hw:Ar l wordsL (j7+1)==CO with
    | false=>
      go_wp2_with fail;refine mR (Df hp HTk.1 CO hw) λw12 g=>?_;replace HK:=S (HK.1.gbN g);replace hp:=hp.gbN g;clear g;rw[if_neg (nF hw)]at HQ;clear hw;rw[Rd.pure_f,Res.bind_ok,Rd.pure_f]at HQ;replace HK:=S HK.1.toKS;go_wp2;go_end0;exact Post.ok HK.1.gr HQ.1.symm ⟨rfl,_,_,_,_,_,HK.1⟩ hp
    | true=>
      obtain⟨i0,hi0,hz0,hz1,hz2⟩:=info_parts Fe;have HI2:=S (X hi0 (X hz0 (X hz1 hz2)));clear hi0 hz0 hz1 hz2;go_wp2_with fail;refine(Di hp HTk.1 CO (by decide) hw).mono ?_;rintro e w12 ⟨rfl,hp9,g⟩;replace HK:=S (HK.1.gb g);replace hp:=hp9;clear g hp9;rw[if_pos hw]at HQ;clear hw;rw[Rd.pure_f,Res.bind_ok,Rd.pure_f]at HQ;have hbL:=HK.1.bL;have hkl:=HK.1.lt;have hwL:=HK.1.wL;have d3:=HK.1.blk.cell' 3 rfl;have HB:=S (X (HK.1.alloc (.cells #[str CO] 9 (0,0))) (hp.alloc (.cells #[str CO] 9 (0,0))));clear HK;go_wp2_with (at_builtin;go_loud(refine wpList_append_lies _ rfl _ _ 37 rfl (w.heap.size+1) 9 i0 _ 1 16 underlying37 HI2.1.1 HI2.1.2.1 HI2.1.2.2.1 HI2.1.2.2.2 rfl (by decide) _ _ _ rfl HB.1.1.p ⟨w12.heap.size,0,none⟩ 1 1 [str CO] rfl rfl (EN _ _ _) (by simp[Value.oneCell']) (by decide) (by simp[maxLen]) (by simp) (by simp;omega) _ rfl ?_;intro j cap w13 hown hgrow hat hlt;(have HK8:=S (X (HB.1.1.addP' hown hgrow hat) (Par.app HB.1.2 hgrow (λq hq=>(HB.1.1.belowP q hq).1) hbL 3 (.slice (some ⟨j,0,none⟩) ([p].length+1) cap))));(have hb7:=HB.1.1.blk.gb hgrow HB.1.1.neP);(have f7:=hb7.frozen 3);(have d7:=hb7.cell' 3 rfl);(have l7:=hb7.lt);clear hown hgrow hat hb7 HB));go_end0;exact Post.ok HK8.1.1.toKS.gr HQ.1.symm ⟨rfl,_,_,_,_,_,HK8.1.1.toKS⟩ HK8.1.2
  ·have hs1:(s==[85,78,73,81,85,69])=false:=by have:s≠Hr:=λe=>hus (.inl e);simpa using this
   have hs2:(s==[67,65,78,68,73,68,65,84,69])=false:=by have:s≠GT:=λe=>hus (.inr e);simpa using this
   rw[if_neg hus,Rd.bind_f,Rd.pure_f,Res.bind_ok,Rd.bind_f,Rd.ifw_f]at HQ;have hkl:=HK.1.lt;cases hw:Ar l wordsL j7==CO with
   | false=>
     go_wp2_with fail;refine mR (Df hp HTk.1 CO hw) λw12 g=>?_;replace HK:=S (HK.1.gbN g);replace hp:=hp.gbN g;clear g;rw[if_neg (nF hw)]at HQ;clear hw;rw[Rd.pure_f,Res.bind_ok,Rd.pure_f]at HQ;replace HK:=S HK.1.toKS;go_wp2;go_end0;exact Post.ok HK.1.gr HQ.1.symm ⟨rfl,_,_,_,_,_,HK.1⟩ hp
   | true=>
     obtain⟨i0,hi0,hz0,hz1,hz2⟩:=info_parts Fe;have HI2:=S (X hi0 (X hz0 (X hz1 hz2)));clear hi0 hz0 hz1 hz2;go_wp2_with fail;refine(Di hp HTk.1 CO (by decide) hw).mono ?_;rintro e w12 ⟨rfl,hp9,g⟩;replace HK:=S (HK.1.gb g);replace hp:=hp9;clear g hp9;rw[if_pos hw]at HQ;clear hw;rw[Rd.pure_f,Res.bind_ok,Rd.pure_f]at HQ;have hbL:=HK.1.bL;have hkl:=HK.1.lt;have hwL:=HK.1.wL;have d3:=HK.1.blk.cell' 3 rfl;have HB:=S (X (HK.1.alloc (.cells #[str CO] 9 (0,0))) (hp.alloc (.cells #[str CO] 9 (0,0))));clear HK;go_wp2_with (at_builtin;go_loud(refine wpList_append_lies _ rfl _ _ 37 rfl (w.heap.size+1) 9 i0 _ 1 16 underlying37 HI2.1.1 HI2.1.2.1 HI2.1.2.2.1 HI2.1.2.2.2 rfl (by decide) _ _ _ rfl HB.1.1.p ⟨w12.heap.size,0,none⟩ 1 1 [str CO] rfl rfl (EN _ _ _) (by simp[Value.oneCell']) (by decide) (by simp[maxLen]) (by simp) (by simp;omega) _ rfl ?_;intro j cap w13 hown hgrow hat hlt;(have HK8:=S (X (HB.1.1.addP' hown hgrow hat) (Par.app HB.1.2 hgrow (λq hq=>(HB.1.1.belowP q hq).1) hbL 3 (.slice (some ⟨j,0,none⟩) ([p].length+1) cap))));(have hb7:=HB.1.1.blk.gb hgrow HB.1.1.neP);(have f7:=hb7.frozen 3);(have d7:=hb7.cell' 3 rfl);(have l7:=hb7.lt);clear hown hgrow hat hb7 HB));go_end0;exact Post.ok HK8.1.1.toKS.gr HQ.1.symm ⟨rfl,_,_,_,_,_,HK8.1.1.toKS⟩ HK8.1.2
end Go.Proofs.YtbjfaimkiclhgaaGreatDoor
