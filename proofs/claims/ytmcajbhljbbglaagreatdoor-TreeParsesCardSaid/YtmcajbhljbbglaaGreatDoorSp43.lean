/-
  The program's reader of statements: replace. The reference's reader of statements: the worlds of a map's literal beside a call and a new statement, in whatever order. The reference's reader of stateme
-/
import Derived.Test.YtmcajbhljbbglaaGreatDoorSpF
import Derived.Test.YtmcajbhljbbglaaGreatDoorSp41
import Derived.Test.YtmcajbhljbbglaaGreatDoorSp40
import Derived.Deep.CutRange
import Derived.Test.YtmcajbhljbbglaaGreatDoorSp42
set_option linter.all false
set_option maxRecDepth 100000
set_option maxHeartbeats 8000000
namespace Go.Proofs.YtmcajbhljbbglaaGreatDoor
open Tryz
open Go.RowKit
section
variable {w wr:World}{b:Nat}{tv wo:Value}{l:List Tok}{i:Nat}
def ReplQ(hn:Al l)(day:Bs→Int)(n:Nat)(b:Nat)(tv wo:Value)(w:World)(L:Nat)(wd:Bs)(rest:List Bs×Fo→Rd l Sd)(R:Res Sd)(g:Nat)(wx:World):Prop:=
 (∃a j m,g=m+1∧(∃pv xv,KA b w L wx 13 wd [] a.1 a.2 .nil pv xv (.slice none 0 0))∧Par wx b tv wo l wordsL j∧a.1.length+m≤n∧a.2.len+m≤n∧((CX hn wordsL day n a).bind fun a=>(Rd.moreS [44] (CX hn wordsL day n) m a).bind rest).f j=R)∨False
theorem l1(hn:Al l){day:Bs→Int}{n L:Nat}{wd:Bs}(hnn:n≤100000)(hE:CE 56 b tv wo l wordsL (Aw l day n))(hok:∀i,At (Af l i))(hl:AF l)(k:KA b w L wr 13 wd [] [] .nil .nil (.slice none 0 0) (.slice none 0 0) (.slice none 0 0))(h:Par wr b tv wo l wordsL i)(ho:(KW hn day n wd).f i ≠ .out):
 Calls Tryz.prog 253 #[.pointer (some ⟨b,0,none⟩),.pointer (some ⟨L,0,none⟩)] wr (Post b tv wo l wordsL w (VIn b w L) ((KW hn day n wd).f i)):=by
 have hb:=h.lt;have HO:=Z ho;generalize hR:(KW hn day n wd).f i=R at*;unfold KW at hR;have HQ:=Z hR;have HE:=Z hE;have HTk:=Z hok;have HSh:=Z hl;have HK:=Z k;have hp:=h;clear hE hok hl h ho hR k;go_enter func253,ntmps253;go_wp2_with fail;go_loopg [] (n+1) (fun g wx=>ReplQ hn day n b tv wo w L wd (fun a=>(Ba hn wordsL day n n B7).bind fun c=>Rd.pure (Cb {sd0 13 wd with p:=a.1,x:=a.2} c)) R g wx)
 case atStart=>exact .inl ⟨([],.nil),i,n,rfl,⟨_,_,HK.out⟩,hp,by simp,by simp[Fo.len],HQ.out⟩
 case round=>
  obtain⟨a,j0,m,rfl,⟨pv,xv,hK⟩,hp1,hm1,hm2,hq⟩|hF:=hrel;rotate_left
  ·exact hF.elim
  have HK:=Z hK;have hp:=hp1;have HQ:=Z hq;clear hK hp1 hq;replace HQ:=HQr HQ BQ;have e0:=HQ.out;unfold CX at e0;rw[Rd.name_f]at e0;replace HQ:=Z e0;clear e0;have hkl:=HK.out.lt;have hx3:=HK.out.blk.cell' 3 rfl;cases hr6:AW l j0 with
  |out=>exact absurd Bz HO.out
  | bad q6=>
    exact QI
  |ok s j1=>
  replace HQ:=HQr HQ Fk;replace HQ:=HQr HQ Em;go_upto_region 0 with fail;go_cut []from 4 to 14 (fun wx=>(∃pv' xv',KA b w L wx 13 wd [] (a.1++[s]) a.2 .nil pv' xv' (.slice none 0 0))∧Par wx b tv wo l wordsL j1)
  case first=>
   have Ko{P}(h:P:=by
   have hroom:=(show a.1.length≤200000 by omega);have DD{P}(h:P:=by
   go_region_law(first
    | (refine step_append_lies _ Ao _ _ 26 Ao (w.heap.size+1) 9 i0 _ 1 16 underlying26 HI.out.1 HI.out.2.1 HI.out.2.2.1 HI.out.2.2.2 rfl Ad _ _ _ Ao HB.out.1.p ⟨w6.heap.size,0,none⟩ 1 1 [str s] Ao rfl (D0 _ _ _) Dg Ad AI Ab Ag _ rfl ?_;intro j cap w7 hown hgrow hat hlt;(have HK8:=Z (Ac (HB.out.1.addP' hown hgrow hat) (Par.app HB.out.2 hgrow (fun q hq=>(HB.out.1.belowP q hq).1) hbL 3 (.slice (some ⟨j,0,none⟩) (a.1.length+1) cap))));(have hb7:=HB.out.1.blk.gb hgrow HB.out.1.neP);(have f7:=hb7.frozen 3);(have d7:=hb7.cell' 3 rfl);(have l7:=hb7.lt);clear hown hgrow hat hb7 HB)
    | (go_simp;go_at_call 98;refine(C4 (hp.drewN 1) HSh.out).mono ?_;rintro e w6 hq6;rw[hr6]at hq6;obtain⟨g6,v,rfl,rfl,h6⟩:=hq6;(have k6:=HK.out.gb (Ah (An (Aj _ _)) g6));(have l6:=k6.lt);(have d6:=k6.blk.cell' 3 rfl);(have s6:=g6.size);(have HB:=Z (Ac (k6.alloc (.cells #[str s] 9 (0,0))) (h6.alloc (.cells #[str s] 9 (0,0)))));clear k6 h6 g6))
   all_goals
    go_wp2_with fail;go_meet
    case rel=>exact⟨⟨_,_,HK8.out.1⟩,HK8.out.2⟩):=Aa h
   exact D9):=Aa h;exact Kf
  case rest=>
  obtain⟨⟨pv2,xv2,hK⟩,hp1⟩:=hcut;replace HK:=Z hK;replace hp:=hp1;clear hK hp1 hx3 hr6;have hkl:=HK.out.lt;go_wp2_with fail;refine(CJ hp HTk.out Gn Ad).mono ?_;intro e w9 hq;obtain⟨g,⟨q,hr,rfl⟩| ⟨u,j2,v,hr,rfl,rfl,hp9⟩⟩:=hq.split
  ·exact BA
  replace HK:=Z (HK.out.gb g);replace hp:=hp9;clear hp9;replace HQ:=HQr HQ DU;clear hr;clear g;replace HQ:=HQr HQ Fl;have hkl:=HK.out.lt;have hx4:=HK.out.blk.cell' 4 rfl;cases hr6:Aw l day n j2 with
  |out=>exact absurd Bz HO.out
  | bad q6=>
    go_wp2_with fail;have EQ{P}(h:P:=by
    have Iu{P}(h:P:=by
    have RO{P}(h:P:=by
    have kA:=(HK.out.gbN (An (Aj w9 none))).alloc (.cells zeroE.toArray 29 (0,0));have Km{P}(h:P:=by
    go_region_law(first
     | (refine step_append_lies _ Ao _ _ 27 Ao ((w).heap.size+1) 29 i0 _ 7 104 underlying27 HI.out.1 HI.out.2.1 HI.out.2.2.1 HI.out.2.2.2 rfl Ad _ _ csA Ao HA1.out.2.1 ⟨(w9).heap.size,0,none⟩ 1 1 zeroE Ao rfl (Bu _ _ _) EK Ad AI Ab Eo _ rfl ?_;intro j cap w7 hown hgrow hat hlt;(have HP1:=Z (Ac (HA1.out.1.pend rfl HA1.out.2.1 HA1.out.2.2.1 hown hgrow hat) (HA1.out.2.2.2.gb hgrow (fun q hq=>(HA1.out.1.belowX q hq).1))));(have f7:=(HA1.out.1.blk.gb hgrow HA1.out.1.neX).frozen 4);(have d7:=(HA1.out.1.blk.gb hgrow HA1.out.1.neX).cell' 4 rfl);(have l7:=HP1.out.1.lt);(have s7:=hgrow.size);(have bj7:=HP1.out.1.bj);clear hown hgrow hat)
     | (go_simp;go_at_call 56;refine(HE.out _ _ HP1.out.2 Bp).mono ?_;rintro e w8 hq8;rw[hr6]at hq8;obtain⟨g8,rfl⟩:=hq8;refine Cd (P:=Tryz.prog) ⟨rfl,Post.bad (Ah HP1.out.1.gr g8) Bz⟩ ⟨#[],[]⟩ w8 ?_)
     | (go_simp;go_at_call 56;refine(HE.out _ _ (HP1.out.2.gb (As (Aj w7 (some L)) 4 (.slice (some ⟨j,0,none⟩) ((a.2).len+1) cap)) A6) Bp).mono ?_;rintro e w8 hq8;rw[hr6]at hq8;obtain⟨g8,rfl⟩:=hq8;refine Cd (P:=Tryz.prog) ⟨rfl,Post.bad (Ah (HP1.out.1.put4 (.slice (some ⟨j,0,none⟩) ((a.2).len+1) cap)).gr g8) Bz⟩ ⟨#[],[]⟩ w8 ?_)
     | (go_simp;go_at_call 56;refine(HE.out _ _ (hp.drewN 1) Bp).mono ?_;rintro e w8 hq8;rw[hr6]at hq8;obtain⟨g8,rfl⟩:=hq8;refine Cd (P:=Tryz.prog) ⟨rfl,Post.bad (Ah (An HK.out.gr) g8) Bz⟩ ⟨#[],[]⟩ w8 ?_)
     | (go_simp;go_at_call 56;refine(HE.out _ _ HA1.out.2.2.2 Bp).mono ?_;rintro e w8 hq8;rw[hr6]at hq8;obtain⟨g8,rfl⟩:=hq8;refine Cd (P:=Tryz.prog) ⟨rfl,Post.bad (Ah HA1.out.1.gr g8) Bz⟩ ⟨#[],[]⟩ w8 ?_))
    all_goals trivial):=Aa h;exact Kb):=Aa h;exact QR):=Aa h;exact Il):=Aa h;exact EN
  |ok x j3=>
  replace HQ:=HQr HQ Fk;replace HQ:=HQr HQ Bj;replace HQ:=HQr HQ CU;replace HQ:=HQr HQ BQ;go_upto_region 2 with fail;go_cut []from 17 to 28 (fun wx=>(∃xv',KA b w L wx 13 wd [] (a.1++[s]) (a.2.snoc x) .nil pv2 xv' (.slice none 0 0))∧Par wx b tv wo l wordsL j3)
  case first=>
   have EQ{P}(h:P:=by
   have hroom:=(show a.2.len≤200000 by omega);have Iu{P}(h:P:=by
   have RO{P}(h:P:=by
   have HFr:=Z (fun q hq=>HK.out.fresh q hq);have kA:=(HK.out.gbN (An (Aj w9 none))).alloc (.cells zeroE.toArray 29 (0,0));have Km{P}(h:P:=by
   go_region_law(first
    | (refine step_append_lies _ Ao _ _ 27 Ao ((w).heap.size+1) 29 i0 _ 7 104 underlying27 HI.out.1 HI.out.2.1 HI.out.2.2.1 HI.out.2.2.2 rfl Ad _ _ csB Ao HA2.out.2.1 _ 1 1 zeroE Ao rfl HZ2.out EK Ad AI Ab Eo _ rfl ?_;intro j cap w7 hown hgrow hat hlt;(have HPF:=Z (Ac (HA2.out.1.pend rfl HA2.out.2.1 HA2.out.2.2.1 hown hgrow hat) (HA2.out.2.2.2.1.gb hgrow (fun q hq=>(HA2.out.1.belowX q hq).1))));(have HVF:=Z (Kz (f:=a.2) (cap:=cap) HA2.out.2.2.2.2.1 HA2.out.2.2.2.2.2 (fun q hq _=>hq) HFr.out hgrow hat));(have f7:=(HA2.out.1.blk.gb hgrow HA2.out.1.neX).frozen 4);(have d7:=(HA2.out.1.blk.gb hgrow HA2.out.1.neX).cell' 4 rfl);(have l7:=HPF.out.1.lt);(have bj7:=HPF.out.1.bj);(have nj7:=HPF.out.1.neL);(have fe7:=fun i=>HPF.out.1.frozenE i);(obtain⟨u70,e70⟩:=HPF.out.1.cellE 0 Ad);(obtain⟨u71,e71⟩:=HPF.out.1.cellE 1 Ad);(obtain⟨u72,e72⟩:=HPF.out.1.cellE 2 Ad);(obtain⟨u73,e73⟩:=HPF.out.1.cellE 3 Ad);(obtain⟨u74,e74⟩:=HPF.out.1.cellE 4 Ad);(obtain⟨u75,e75⟩:=HPF.out.1.cellE 5 Ad);(obtain⟨u76,e76⟩:=HPF.out.1.cellE 6 Ad);(try simp only[Nat.add_zero]at e70);clear hown hgrow hat)
    | (refine step_append_lies _ Ao _ _ 27 Ao ((w).heap.size+1) 29 i0 _ 7 104 underlying27 HI.out.1 HI.out.2.1 HI.out.2.2.1 HI.out.2.2.2 rfl Ad _ _ csA Ao HA1.out.2.1 ⟨(w9).heap.size,0,none⟩ 1 1 zeroE Ao rfl (Bu _ _ _) EK Ad AI Ab Eo _ rfl ?_;intro j cap w7 hown hgrow hat hlt;(have HP1:=Z (Ac (HA1.out.1.pend rfl HA1.out.2.1 HA1.out.2.2.1 hown hgrow hat) (HA1.out.2.2.2.gb hgrow (fun q hq=>(HA1.out.1.belowX q hq).1))));(have f7:=(HA1.out.1.blk.gb hgrow HA1.out.1.neX).frozen 4);(have d7:=(HA1.out.1.blk.gb hgrow HA1.out.1.neX).cell' 4 rfl);(have l7:=HP1.out.1.lt);(have s7:=hgrow.size);(have bj7:=HP1.out.1.bj);clear hown hgrow hat)
    | (go_simp;go_at_call 56;refine(HE.out _ _ HP1.out.2 Bp).mono ?_;rintro e w8 hq6;rw[hr6]at hq6;obtain⟨g8,v,rfl,⟨pa6,pc6,la6,lc6,rfl,q1,q2⟩,h8⟩:=hq6;(have hKP:=HP1.out.1.gb g8);(have HPF:=Z (Ac hKP h8));(have HVF:=Z (Ac (q1.mono (fun q hq _=>HP1.out.1.fresh q hq)) (q2.mono (fun q hq _=>HP1.out.1.fresh q hq))));(have f8:=hKP.blk.frozen 4);(have d8:=hKP.blk.cell' 4 rfl);(have l8:=hKP.lt);(have bj8:=hKP.bj);(have nj8:=hKP.neL);(have fe8:=fun i=>HPF.out.1.frozenE i);(obtain⟨u70,e70⟩:=HPF.out.1.cellE 0 Ad);(obtain⟨u71,e71⟩:=HPF.out.1.cellE 1 Ad);(obtain⟨u72,e72⟩:=HPF.out.1.cellE 2 Ad);(obtain⟨u73,e73⟩:=HPF.out.1.cellE 3 Ad);(obtain⟨u74,e74⟩:=HPF.out.1.cellE 4 Ad);(obtain⟨u75,e75⟩:=HPF.out.1.cellE 5 Ad);(obtain⟨u76,e76⟩:=HPF.out.1.cellE 6 Ad);(try simp only[Nat.add_zero]at e70);clear hKP q1 q2 g8 h8)
    | (go_simp;go_at_call 56;refine(HE.out _ _ (HP1.out.2.gb (As (Aj w7 (some L)) 4 (.slice (some ⟨j,0,none⟩) ((a.2).len+1) cap)) A6) Bp).mono ?_;rintro e w8 hq6;rw[hr6]at hq6;obtain⟨g8,v,rfl,⟨pa6,pc6,la6,lc6,rfl,q1,q2⟩,h8⟩:=hq6;(have hKP:=(HP1.out.1.put4 (.slice (some ⟨j,0,none⟩) ((a.2).len+1) cap)).gb g8);(have HPF:=Z (Ac hKP h8));(have HVF:=Z (Ac (q1.mono (fun q hq _=>(HP1.out.1.put4 (.slice (some ⟨j,0,none⟩) ((a.2).len+1) cap)).fresh q hq)) (q2.mono (fun q hq _=>(HP1.out.1.put4 (.slice (some ⟨j,0,none⟩) ((a.2).len+1) cap)).fresh q hq))));(have bj8:=hKP.bj);(have nj8:=hKP.neL);(have l8:=hKP.lt);(have fe8:=fun i=>HPF.out.1.frozenE i);(obtain⟨u70,e70⟩:=HPF.out.1.cellE 0 Ad);(obtain⟨u71,e71⟩:=HPF.out.1.cellE 1 Ad);(obtain⟨u72,e72⟩:=HPF.out.1.cellE 2 Ad);(obtain⟨u73,e73⟩:=HPF.out.1.cellE 3 Ad);(obtain⟨u74,e74⟩:=HPF.out.1.cellE 4 Ad);(obtain⟨u75,e75⟩:=HPF.out.1.cellE 5 Ad);(obtain⟨u76,e76⟩:=HPF.out.1.cellE 6 Ad);(try simp only[Nat.add_zero]at e70);clear hKP q1 q2 g8 h8)
    | (go_simp;go_at_call 56;refine(HE.out _ _ (hp.drewN 1) Bp).mono ?_;rintro e w6 hq6;rw[hr6]at hq6;obtain⟨g6,v,rfl,⟨pa6,pc6,la6,lc6,rfl,q1,q2⟩,h6⟩:=hq6;(have k6:=HK.out.gb (Ah (An (Aj _ _)) g6));(have l6:=k6.lt);(have s6:=g6.size);(have d6:=k6.blk.cell' 4 rfl);(have k7:=k6.alloc (.cells zeroE.toArray 29 (0,0)));(obtain⟨csB,ho6,hr7⟩:=k7.x);(have gA:=World.grownBy_alloc w6 (.cells zeroE.toArray 29 (0,0)) none);(have HA2:=Z (Ac k7 (Ac ho6 (Ac hr7 (Ac (h6.alloc (.cells zeroE.toArray 29 (0,0))) (Ac (q1.gb gA Ae) (q2.gb gA Ae)))))));(have HZ2:=Z (Bu w6 zeroE 29));clear k6 k7 ho6 hr7 gA q1 q2 h6 g6)
    | (go_simp;go_at_call 56;refine(HE.out _ _ HA1.out.2.2.2 Bp).mono ?_;rintro e w6 hq6;rw[hr6]at hq6;obtain⟨g6,v,rfl,⟨pa6,pc6,la6,lc6,rfl,q1,q2⟩,h6⟩:=hq6;(have k6:=HA1.out.1.gb g6);(have l6:=k6.lt);(have s6:=g6.size);(have d6:=k6.blk.cell' 4 rfl);(obtain⟨csB,ho6,hr7⟩:=k6.x);(have HA2:=Z (Ac k6 (Ac ho6 (Ac hr7 (Ac h6 (Ac (q1.mono (ok':=Ap (w9).heap.size) (fun q hq _=>Nat.le_of_succ_le D4)) (q2.mono (ok':=Ap (w9).heap.size) (fun q hq _=>Nat.le_of_succ_le D4))))))));(have HZ2:=Z (show ∀i u,zeroE[i]? =some u→w6.cell? ((⟨(w9).heap.size,0,none⟩:Addr).add i)=some u from fun i u hu=>KB (((Blk.new (World.drew w9) zeroE 29).gb g6 Ag).cell' i hu)));clear k6 ho6 hr7 q1 q2 h6 g6))
   all_goals
    go_wp2_with fail;go_meet
    case rel=>
     show(∃xv',KA b w L _ 13 wd [] (a.1++[s]) (a.2.snoc x) .nil pv2 xv' (.slice none 0 0))∧Par _ b tv wo l wordsL j3;exact Zn):=Aa h
   exact Kb):=Aa h;exact QR):=Aa h;exact Il):=Aa h;exact EN
  case rest=>
  obtain⟨⟨xv3,hK⟩,hp1⟩:=hcut;replace HK:=Z hK;replace hp:=hp1;clear hK hp1 hx4 hr6;generalize hWW:wc=W8 at*;clear hWW;cases m with
  |zero=>exact absurd HQ.out.symm HO.out
  |succ m=>
  replace HQ:=HQr HQ (by rw[Rd.moreS_f]);have hkl:=HK.out.lt;cases hs:Ak (Af l j3) [44]with
  | true=>
    have RC{P}(h:P:=by
    go_roundg (m+1)
    case measure=>omega
    case rel=>exact .inl ⟨(a.1++[s],a.2.snoc x),_,m,rfl,⟨_,_,HK.out⟩,hp,by simp;omega,by simp[Fo.len_snoc];omega,HQ.out⟩):=Aa h;exact QB
  | false=>
    have RG{P}(h:P:=by
    replace HQ:=HQr HQ BQ;replace HK:=Z HK.out.toKS;go_wp2_with fail;have R3{P}(h:P:=by
    have hfr:∀q,Ap (w12).heap.size q→q<w20.heap.size→but w L q:=fun q hq _=>by have h1:(w12).heap.size≤q:=hq;(try simp at h1);exact⟨by omega,by omega⟩
    have HK20:=Z (hK20.putC (rn.mono hfr) (rf.mono hfr) (rw0.mono hfr) _ rfl);have HP20:=Z (h20.putC (L:=L) Ab (.int .i64 c.kind) (.slice na c.n.len nc) (.slice fa c.f.len fc) (.slice wa c.w.len wc));clear hK20 g20 h20 rn rf rw0 hfr HK hp;replace HQ:=HQr HQ Bj;go_wp2;go_end0;exact Post.ok HK20.out.gr HQ.out.symm ⟨rfl,_,_,_,_,_,HK20.out⟩ HP20.out):=Aa h;exact Qw):=Aa h;exact QG
end
def FH(e1 e2:Bs×Value):Bool→Bool→List (Bs×Value)→Prop
 |false,false,es=>es=[]
 |true,false,es=>es=[e1]
 |false,true,es=>es=[e2]
 |true,true,es=>es=[e1,e2]∨es=[e2,e1]
def Ay(L:Array Bool)(i:Nat):Bool:=L.getD i false
def IQ(b:Nat)(R:Bool→World→Prop):Prop:=∀c W W' o,R c W→W.grownBy W' o→(∀q,o=some q→b<q)→R c W'
structure LitW(b:Nat)(R:Bool→World→Prop)(W0:World)(x:Fo)(e1 e2:Bs×Value)(row:Value→List Value)(L:Array Bool)(m s:Nat)(v:Value)(W:World):Prop where
 g:W0.grownBy W (some b)
 r:R (Ay L 7) W
 map:Ay L 0=true→W0.heap.size≤m∧m<W.heap.size∧∃es,W.heap[m]? =some (Bh es)∧FH e1 e2 (Ay L 1) (Ay L 2) es
 val:Ay L 7=true→RepL (fun q=>W0.heap.size≤q∧(Ay L 0=true→q≠m)∧(Ay L 9=true→q≠s)) W v x
 new:Ay L 9=true→W0.heap.size≤s∧s<W.heap.size∧(Ay L 0=true→s≠m)∧Blk W s (if Ay L 10 then row v else stC 0 (.slice none 0 0)) 50
theorem Hn(W:World)(m:Nat)(l:List (Bs×Value)):W.grownBy (EX W m l) (some m):=
 ⟨rfl,rfl,rfl,by rw[Ky];exact Nat.le_refl _,fun k hk hne=>pC (fun e=>hne (by rw[e])) l⟩
theorem E6{L:Array Bool}{i:Nat}(hi:i<L.size)(j:Nat):Ay (L.setIfInBounds i true) j=if j=i then true else Ay L j:=by
 unfold Ay;by_cases h:j=i
 ·subst h;simp[Array.getD_eq_getD_getElem?,hi]
 ·have h':¬i=j:=fun e=>h e.symm;simp[Array.getD_eq_getD_getElem?,h,h']
section
variable {b:Nat}{R:Bool→World→Prop}{W0:World}{x:Fo}{e1 e2:Bs×Value}{row:Value→List Value}{L:Array Bool}{m s:Nat}{v:Value}{W:World}
theorem LitW.make(hS:IQ b R)(h:LitW b R W0 x e1 e2 row L m s v W)(hL:L.size=11)(h0:Ay L 0=false)(h1:Ay L 1=false)(h2:Ay L 2=false):
 LitW b R W0 x e1 e2 row (L.setIfInBounds 0 true) W.heap.size s v (W.alloc (Bh [])):=by
 have ht:=E6 (L:=L) (i:=0) Ab;have hs:=h.g.size;refine⟨Ar h.g _,?_,fun _=>⟨hs,by simp,[],heap_alloc_new W _,?_⟩,fun h7=>?_,fun h9=>?_⟩
 ·have:=hS _ _ _ _ h.r (World.grownBy_alloc W (Bh []) none) Ae;simpa[ht]using this
 ·simp[ht,h1,h2,FH]
 ·simp only[ht]at h7 ⊢;have h7:Ay L 7=true:=Ln;exact(h.val h7).mono (ok':=fun q=>W0.heap.size≤q∧q<W.heap.size∧(Ay L 9=true→q≠s)) (fun q hq hlt=>⟨hq.1,hlt,hq.2.2⟩)|>.gb (World.grownBy_alloc W (Bh []) none) Ae|>.mono (fun q hq _=>⟨hq.1,fun _=>by omega,by simpa using hq.2.2⟩)
 ·simp only[ht]at h9 ⊢;have h9:Ay L 9=true:=Lo;obtain⟨a1,a2,a3,a4⟩:=h.new h9;exact⟨a1,by simp;omega,fun _=>by omega,by simpa using a4.gb (World.grownBy_alloc W (Bh []) none) Ae⟩
theorem LitW.alloc(hS:IQ b R)(h:LitW b R W0 x e1 e2 row L m s v W)(hL:L.size=11)(h9:Ay L 9=false)(h10:Ay L 10=false):
 LitW b R W0 x e1 e2 row (L.setIfInBounds 9 true) m W.heap.size v (W.alloc (.cells (stC 0 (.slice none 0 0)).toArray 50 (0,0))):=by
 have ht:=E6 (L:=L) (i:=9) Ab;have hs:=h.g.size;refine⟨Ar h.g _,?_,fun h0=>?_,fun h7=>?_,fun _=>⟨hs,by simp,fun h0=>?_,?_⟩⟩
 ·have:=hS _ _ _ _ h.r (World.grownBy_alloc W (.cells (stC 0 (.slice none 0 0)).toArray 50 (0,0)) none) Ae;simpa[ht]using this
 ·simp only[ht]at h0 ⊢;obtain⟨a1,a2,es,a3,a4⟩:=h.map Lm;exact⟨a1,by simp;omega,es,E0 (World.grownBy_alloc W _ none) a3 Ae,by simpa using a4⟩
 ·simp only[ht]at h7 ⊢;have h7:Ay L 7=true:=Ln;exact(h.val h7).mono (ok':=fun q=>W0.heap.size≤q∧q<W.heap.size∧(Ay L 0=true→q≠m)) (fun q hq hlt=>⟨hq.1,hlt,hq.2.1⟩)|>.gb (World.grownBy_alloc W _ none) Ae|>.mono (fun q hq _=>⟨hq.1,by simpa using hq.2.2,fun _=>by omega⟩)
 ·simp only[ht]at h0;have:=(h.map Lm).2.1;omega
 ·have:=Blk.new W (stC 0 (.slice none 0 0)) 50;simpa[ht,h10]using this
theorem LitW.ins1(hS:IQ b R)(h:LitW b R W0 x e1 e2 row L m s v W)(hL:L.size=11)(hb:b<W0.heap.size)(h0:Ay L 0=true)(hi:Ay L 1=false):
 ∃es,W.heap[m]? =some (Bh es)∧FH e1 e2 (Ay L 1) (Ay L 2) es∧LitW b R W0 x e1 e2 row (L.setIfInBounds 1 true) m s v (EX W m (es++[e1])):=by
 have ht:=E6 (L:=L) (i:=1) Ab;obtain⟨a1,a2,es,a3,a4⟩:=h.map h0;refine⟨es,a3,a4,A5 h.g (Hn W m _) (.inr a1),?_,fun _=>⟨a1,by rw[Ky];exact a2,_,UL a2 _,?_⟩,fun h7=>?_,fun h9=>?_⟩
 ·have:=hS _ _ _ _ h.r (Hn W m (es++[e1])) A6;simpa[ht]using this
 ·rw[hi]at a4;cases h2:Ay L 2<;>simp[h2,FH]at a4<;>subst a4<;>simp[ht,h2,FH]
 ·simp only[ht]at h7 ⊢;have h7:Ay L 7=true:=Ln;have:=(h.val h7).gb (Hn W m (es++[e1])) (by intro q hq _ e;cases e;exact hq.2.1 h0 rfl);simpa using this
 ·simp only[ht]at h9 ⊢;have h9:Ay L 9=true:=Lo;obtain⟨c1,c2,c3,c4⟩:=h.new h9;exact⟨c1,by rw[Ky];exact c2,by simpa using c3,by simpa using c4.gb (Hn W m (es++[e1])) Qj⟩
theorem LitW.ins2(hS:IQ b R)(h:LitW b R W0 x e1 e2 row L m s v W)(hL:L.size=11)(hb:b<W0.heap.size)(h0:Ay L 0=true)(hi:Ay L 2=false):
 ∃es,W.heap[m]? =some (Bh es)∧FH e1 e2 (Ay L 1) (Ay L 2) es∧LitW b R W0 x e1 e2 row (L.setIfInBounds 2 true) m s v (EX W m (es++[e2])):=by
 have ht:=E6 (L:=L) (i:=2) Ab;obtain⟨a1,a2,es,a3,a4⟩:=h.map h0;refine⟨es,a3,a4,A5 h.g (Hn W m _) (.inr a1),?_,fun _=>⟨a1,by rw[Ky];exact a2,_,UL a2 _,?_⟩,fun h7=>?_,fun h9=>?_⟩
 ·have:=hS _ _ _ _ h.r (Hn W m (es++[e2])) A6;simpa[ht]using this
 ·rw[hi]at a4;cases h2:Ay L 1<;>simp[h2,FH]at a4<;>subst a4<;>simp[ht,h2,FH]
 ·simp only[ht]at h7 ⊢;have h7:Ay L 7=true:=Ln;have:=(h.val h7).gb (Hn W m (es++[e2])) (by intro q hq _ e;cases e;exact hq.2.1 h0 rfl);simpa using this
 ·simp only[ht]at h9 ⊢;have h9:Ay L 9=true:=Lo;obtain⟨c1,c2,c3,c4⟩:=h.new h9;exact⟨c1,by rw[Ky];exact c2,by simpa using c3,by simpa using c4.gb (Hn W m (es++[e2])) Qj⟩
theorem LitW.call(h:LitW b R W0 x e1 e2 row L m s v W)(hL:L.size=11)(hb:b<W0.heap.size)(h10:Ay L 10=false){W':World}{v':Value}(g:W.grownBy W' (some b))(hR:R true W')(hv:RepL (Ap W.heap.size) W' v' x):
 LitW b R W0 x e1 e2 row (L.setIfInBounds 7 true) m s v' W':=by
 have ht:=E6 (L:=L) (i:=7) Ab;have hs:=h.g.size;have hs2:=g.size;refine⟨Ah h.g g,by simpa[ht]using hR,fun h0=>?_,fun _=>?_,fun h9=>?_⟩
 ·simp only[ht]at h0 ⊢;obtain⟨a1,a2,es,a3,a4⟩:=h.map Lm;exact⟨a1,by omega,es,E0 g a3 (by intro e;cases e;omega),by simpa using a4⟩
 ·refine hv.mono (fun q hq _=>?_);have hq:W.heap.size≤q:=hq;refine⟨by omega,fun h0=>?_,fun h9=>?_⟩
  ·simp only[ht]at h0;have:=(h.map Lm).2.1;omega
  ·simp only[ht]at h9;have:=(h.new Lo).2.1;omega
 ·simp only[ht]at h9 ⊢;obtain⟨c1,c2,c3,c4⟩:=h.new Lo;exact⟨c1,by omega,by simpa using c3,by simpa[h10]using c4.gb g (by intro e;cases e;omega)⟩
theorem LitW.quiet(h:LitW b R W0 x e1 e2 row L m s v W)(hL:L.size=11){i:Nat}(hi:i<11)(h0:i≠0)(h1:i≠1)(h2:i≠2)(h7:i≠7)(h9:i≠9)(h10:i≠10):
 LitW b R W0 x e1 e2 row (L.setIfInBounds i true) m s v W:=by
 have ht:=E6 (L:=L) (i:=i) Ab;have t0:Ay (L.setIfInBounds i true) 0=Ay L 0:=by rw[ht,if_neg (Ne.symm h0)]
 have t1:Ay (L.setIfInBounds i true) 1=Ay L 1:=by rw[ht,if_neg (Ne.symm h1)]
 have t2:Ay (L.setIfInBounds i true) 2=Ay L 2:=by rw[ht,if_neg (Ne.symm h2)]
 have t7:Ay (L.setIfInBounds i true) 7=Ay L 7:=by rw[ht,if_neg (Ne.symm h7)]
 have t9:Ay (L.setIfInBounds i true) 9=Ay L 9:=by rw[ht,if_neg (Ne.symm h9)]
 have t10:Ay (L.setIfInBounds i true) 10=Ay L 10:=by rw[ht,if_neg (Ne.symm h10)]
 exact⟨h.g,by rw[t7];exact h.r,by rw[t0,t1,t2];exact h.map,by rw[t7,t0,t9];exact h.val,by rw[t9,t0,t10];exact h.new⟩
def Cw(op:Int)(v:Value):List Value:=[.int .i64 op,str [],str [],.slice none 0 0,v,.slice none 0 0,.int .i64 0,.slice none 0 0,.slice none 0 0,.slice none 0 0]
theorem LitW.store{op:Int}(hS:IQ b R)(h:LitW b R W0 x e1 e2 (Cw op) L m s v W)(hL:L.size=11)(hb:b<W0.heap.size)(h0:Ay L 0=true)(h9:Ay L 9=true)(h10:Ay L 10=false):
 LitW b R W0 x e1 e2 (Cw op) (L.setIfInBounds 10 true) m s v (set10 W s (.int .i64 op) (str []) (str []) (.slice none 0 0) v (.slice none 0 0) (.int .i64 0) (.slice none 0 0) (.slice none 0 0) (.slice none 0 0)):=by
 have ht:=E6 (L:=L) (i:=10) Ab;have hg:=FZ W s (.int .i64 op) (str []) (str []) (.slice none 0 0) v (.slice none 0 0) (.int .i64 0) (.slice none 0 0) (.slice none 0 0) (.slice none 0 0);obtain⟨c1,c2,c3,c4⟩:=h.new h9;have hs:=hg.size;refine⟨A5 h.g hg (.inr c1),?_,fun _=>?_,fun h7=>?_,fun _=>⟨c1,by omega,fun _=>c3 h0,?_⟩⟩
 ·have:=hS _ _ _ _ h.r hg A6;simpa[ht]using this
 ·obtain⟨a1,a2,es,a3,a4⟩:=h.map h0;exact⟨a1,by omega,es,E0 hg a3 Qj,by simpa[ht]using a4⟩
 ·simp only[ht]at h7 ⊢;have:=(h.val Ln).gb hg (by intro q hq _ e;cases e;exact hq.2.2 h9 rfl);simpa using this
 ·rw[h10]at c4;have:=Blk.set10 c4 (.int .i64 op) (str []) (str []) (.slice none 0 0) v (.slice none 0 0) (.int .i64 0) (.slice none 0 0) (.slice none 0 0) (.slice none 0 0);simpa[ht,Cw]using this
end
def C1(k:Nat):Nat→Nat
 | 0=>k
 | 3=>k+1
 | 4=>k+2
 | 5=>k+3
 | 6=>k+4
 | 7=>k+5
 | 8=>k+6
 |_=>5
def EV(b:Nat)(wd:Bs)(op:Int)(m s:Nat)(v:Value):Nat→Value
 | 0=> .map (some m)
 | 3=> .map (some m)
 | 4=>str wd
 | 5=> .int .i64 op
 | 6=> .pointer (some ⟨b,0,none⟩)
 | 7=>v
 | 8=> .agg (Cw op v).toArray
 |_=> .pointer (some ⟨s,0,none⟩)
abbrev Cz:List Nat:=[0,3,4,5,6,7,8,9]
structure LitA(t:Array Value)(k:Nat)(b:Nat)(wd:Bs)(op:Int)(L:Array Bool)(m s:Nat)(v:Value)(a:Act):Prop where
 d:a.defers=[]
 sz:a.tmps.size=t.size
 off:∀j,(∀i∈Cz,j≠C1 k i)→a.tmps[j]? =t[j]?
 at':∀i∈Cz,Ay L i=true→a.tmps[C1 k i]? =some (EV b wd op m s v i)
theorem nN{k:Nat}(hk:5<k){i j:Nat}(hi:i∈Cz)(hj:j∈Cz)(hne:i≠j):C1 k i≠C1 k j:=by
 simp only[Cz,List.mem_cons,List.not_mem_nil,or_false]at hi hj;rcases hi with rfl|rfl|rfl|rfl|rfl|rfl|rfl|rfl<;>rcases hj with rfl|rfl|rfl|rfl|rfl|rfl|rfl|rfl<;>simp only[C1]<;>omega
theorem LitA.put{t:Array Value}{k b:Nat}{wd:Bs}{op:Int}{L:Array Bool}{m s m' s':Nat}{v v':Value}{a:Act}(h:LitA t k b wd op L m s v a)(hL:L.size=11)(hk:5<k)(ht:k+6<t.size){i:Nat}(hi:i∈Cz)
 (hv:∀j∈Cz,j≠i→Ay L j=true→EV b wd op m' s' v' j=EV b wd op m s v j):LitA t k b wd op (L.setIfInBounds i true) m' s' v' (a.put (some (C1 k i)) (EV b wd op m' s' v' i)):=by
 have hlt:i<L.size:=by
  simp only[Cz,List.mem_cons,List.not_mem_nil,or_false]at hi;omega
 have hp:C1 k i<a.tmps.size:=by
  rw[h.sz];exact SZ
 refine⟨h.d,by simp[Act.put,h.sz],fun j hj=>?_,fun j hj hT=>?_⟩
 ·have hne:=hj i hi;simp only[Act.put];rw[Array.getElem?_setIfInBounds_ne (Ne.symm hne)];exact h.off j hj
 ·simp only[Act.put];by_cases e:j=i
  ·subst e;rw[Array.getElem?_setIfInBounds_self_of_lt hp]
  ·rw[Array.getElem?_setIfInBounds_ne (nN hk hi hj (Ne.symm e)),hv j hj e ?_]
   ·rw[E6 hlt,if_neg e]at hT;exact h.at' j hj hT
   ·rw[E6 hlt,if_neg e]at hT;exact hT
theorem LitA.whole{t:Array Value}{k b:Nat}{wd:Bs}{op:Int}{L:Array Bool}{m s:Nat}{v:Value}{a:Act}(h:LitA t k b wd op L m s v a)(hk:5<k)(ht:k+6<t.size)(hT:∀i∈Cz,Ay L i=true):
 a={tmps:=(((((((t.setIfInBounds k (.map (some m))).setIfInBounds (k+1) (.map (some m))).setIfInBounds (k+2) (str wd)).setIfInBounds (k+3) (.int .i64 op)).setIfInBounds (k+4) (.pointer (some ⟨b,0,none⟩))).setIfInBounds (k+5) v).setIfInBounds (k+6) (.agg (Cw op v).toArray)).setIfInBounds 5 (.pointer (some ⟨s,0,none⟩)),defers:=[]}:=by
 obtain⟨tm,df⟩:=a;have hd:df=[]:=h.d;subst hd;refine congrArg (fun x=>({tmps:=x,defers:=[]}:Act)) ?_;apply Array.ext_getElem?;intro j;have hs:tm.size=t.size:=h.sz;by_cases hj:∀i∈Cz,j≠C1 k i
 ·have:=h.off j hj;simp only at this;rw[this];have hj0:=hj 0 Ad;have hj3:=hj 3 Ad;have hj4:=hj 4 Ad;have hj5:=hj 5 Ad;have hj6:=hj 6 Ad;have hj7:=hj 7 Ad;have hj8:=hj 8 Ad;have hj9:=hj 9 Ad;simp only[C1]at hj0 hj3 hj4 hj5 hj6 hj7 hj8 hj9;repeat rw[Array.getElem?_setIfInBounds_ne Ab]
 ·simp only[Classical.not_forall,Classical.not_not]at hj;obtain⟨i,hi,rfl⟩:=hj;have hat:=h.at' i hi (hT i hi);simp only at hat;rw[hat];simp only[Cz,List.mem_cons,List.not_mem_nil,or_false]at hi;rcases hi with rfl|rfl|rfl|rfl|rfl|rfl|rfl|rfl<;>simp only[C1,EV]<;>(repeat rw[Array.getElem?_setIfInBounds_ne Ab])<;>rw[Array.getElem?_setIfInBounds_self_of_lt Eo]
abbrev EC(k fc tp:Nat)(k1:Bs)(v1:Int)(k2:Bs)(v2:Int)(pos:String):Array Oper:=
 #[{dst:=some k,op:= .makeMap 181 none,type:=181,pos:=pos,after:=#[],guard:=none},
  {dst:=none,op:= .insert 181 (.tmp k) (.const (str k1)) (.const (.int .i64 v1)),type:=0,pos:=pos,after:=#[{on:=0,ground:= .data}],guard:=none},
  {dst:=none,op:= .insert 181 (.tmp k) (.const (str k2)) (.const (.int .i64 v2)),type:=0,pos:=pos,after:=#[{on:=0,ground:= .data}],guard:=none},
  {dst:=some (k+1),op:= .move (.tmp k),type:=181,pos:=pos,after:=#[{on:=0,ground:= .data},{on:=1,ground:= .data},{on:=2,ground:= .data}],guard:=none},
  {dst:=some (k+2),op:= .move (.tmp 1),type:=9,pos:=pos,after:=#[],guard:=none},
  {dst:=some (k+3),op:= .lookup 181 (.tmp (k+1)) (.tmp (k+2)) false,type:=3,pos:=pos,after:=#[{on:=3,ground:= .data},{on:=4,ground:= .data}],guard:=none},
  {dst:=some (k+4),op:= .move (.tmp 0),type:=tp,pos:=pos,after:=#[],guard:=none},
  {dst:=some (k+5),op:= .call {callee:= .value (.func fc),args:=#[.tmp (k+4)],argTypes:=#[tp]},type:=27,pos:=pos,after:=#[{on:=6,ground:= .data}],guard:=none},
  {dst:=some (k+6),op:= .build 50 #[(0,.tmp (k+3)),(4,.tmp (k+5))],type:=50,pos:=pos,after:=#[{on:=5,ground:= .data},{on:=7,ground:= .data}],guard:=none},
  {dst:=some 5,op:= .alloc 50,type:=0,pos:=pos,after:=#[],guard:=none},
  {dst:=none,op:= .store 50 (.tmp 5) (.tmp (k+6)),type:=0,pos:=pos,
   after:=#[{on:=9,ground:= .data},{on:=8,ground:= .data},{on:=7,ground:= .chain},{on:=0,ground:= .phase},{on:=1,ground:= .phase},{on:=2,ground:= .phase},{on:=3,ground:= .phase},{on:=4,ground:= .phase},{on:=5,ground:= .phase},{on:=6,ground:= .phase},{on:=7,ground:= .phase},{on:=8,ground:= .phase},{on:=9,ground:= .phase}],guard:=none}]
abbrev Jy:List (Nat×Nat):=[(1,0),(2,0),(3,0),(3,1),(3,2),(5,3),(5,4),(7,6),(8,5),(8,7),(10,9),(10,8)]
def LitC(L:Array Bool):Prop:=∀p∈Jy,Ay L p.1=true→Ay L p.2=true
theorem LitC.set{L:Array Bool}(h:LitC L)(hL:L.size=11){i:Nat}(hi:i<11)(hd:∀p∈Jy,p.1=i→Ay L p.2=true):LitC (L.setIfInBounds i true):=by
 have ht:=E6 (L:=L) (i:=i) Ab;intro p hp h1;rw[ht]at h1 ⊢;split
 ·rfl
 ·split at h1
  ·rename_i e;exact hd p hp e
  ·exact h p hp h1
section
variable {b:Nat}{R:Bool→World→Prop}{W0:World}{x:Fo}{e1 e2:Bs×Value}{op:Int}{t:Array Value}{k:Nat}{wd:Bs}
def Gr(b:Nat)(R:Bool→World→Prop)(W0:World)(x:Fo)(e1 e2:Bs×Value)(op:Int)(t:Array Value)(k:Nat)(wd:Bs)(L:Array Bool)(a:Act)(w:World):Prop:=
 LitC L∧∃m s v,LitW b R W0 x e1 e2 (Cw op) L m s v w∧LitA t k b wd op L m s v a
theorem GF{a:Act}{j:Nat}{v:Value}(h:a.tmps[j]? =some v):a.eval (.tmp j)=v:=by
 show a.tmps.getD j undef=v;simp[Array.getD_eq_getD_getElem?,h]
theorem LitA.quiet{L:Array Bool}{m s:Nat}{v:Value}{a:Act}(h:LitA t k b wd op L m s v a)(hL:L.size=11){i:Nat}(hi:i<11)(hn:i ∉ Cz):LitA t k b wd op (L.setIfInBounds i true) m s v a:=
 ⟨h.d,h.sz,h.off,fun j hj hT=>h.at' j hj (by
  rw[E6 Ab]at hT
  split at hT
  ·rename_i e;subst e;exact absurd hj hn
  ·exact hT)⟩
end
section
variable {P:Program}{o:Oper}{a:Act}{w w':World}{next:Act→World→Prop}{Q:Exit→Act→World→Prop}{v:Value}
theorem IC(h:(execOp a.eval o).run P w= .ok (.value v) w')(hk:next (a.put o.dst v) w'):o.wp P a w next Q:=by
 unfold Oper.wp;rw[h];exact hk
theorem Pk(h:(execOp a.eval o).run P w= .ok .skip w')(hk:next (a.put o.dst undef) w'):o.wp P a w next Q:=by
 unfold Oper.wp;rw[h];exact hk
theorem qH{f:FuncId}{args:Array Value}(h:(execOp a.eval o).run P w= .ok (.enter f args) w')(hc:Calls P f args w' fun e w''=>match e with| .returned v=>next (a.put o.dst v) w'' | .panicked chain=>Q (.panic chain) a w'' | .outgrown=>LetsOut Q):o.wp P a w next Q:=by
 unfold Oper.wp;rw[h];refine hc.mono ?_;intro e w'' h;cases e<;>exact h
theorem F7{ops:Array Oper}{i:Nat}{K:Act→World→Prop}(ho:ops[i]? =some o)(hg:o.guard=none)(h:∀K':Act→World→Prop,(∀a w,K a w→K' a w)→o.wp P a w K' Q):wpOp P ops Q i K a w:=
 wpOp_step ho fun K' hK=>by
  rw[if_pos (by unfold Region.wanted;rw[hg])]
  exact h K' hK
end
theorem sN(n:Int)(xa:Option Addr)(xl xc:Nat)(w:World):(Instr.build 50 #[(0,.int .i64 n),(4,.slice xa xl xc)]).run Tryz.prog w= .ok (.agg (Cw n (.slice xa xl xc)).toArray) w:=Bk
theorem sJ(w:World):(Instr.alloc 50 true (.tuple #[])).run Tryz.prog w= .ok (.pointer (some ⟨w.heap.size,0,none⟩)) (w.alloc (.cells (stC 0 (.slice none 0 0)).toArray 50 (0,0))):=Bk
theorem zM{e1 e2:Bs×Value}{wd:Bs}{v:Value}(hne:e1.1≠e2.1)(h:wd=e1.1∧v=e1.2∨wd=e2.1∧v=e2.2){es:List (Bs×Value)}(hes:FH e1 e2 true true es){w:World}{m:Nat}(hm:w.heap[m]? =some (Bh es)):
 (Instr.lookup 181 (.map (some m)) (str wd) false).run Tryz.prog w= .ok v w:=by
 rw[OF hm];obtain⟨k1,v1⟩:=e1;obtain⟨k2,v2⟩:=e2;simp only at h hne;have n1:(k1==k2)=false:=by simpa using hne
 have n2:(k2==k1)=false:=by simpa using fun e=>hne e.symm
 rcases hes with rfl|rfl<;>rcases h with⟨rfl,rfl⟩| ⟨rfl,rfl⟩<;>simp[CO,n1,n2]
theorem rZ{e1 e2:Bs×Value}(hne:e1.1≠e2.1){c:Bool}{es:List (Bs×Value)}(h:FH e1 e2 false c es):Gk e1.1 es:=by
 cases c with
 |false=>have h:es=[]:=h;subst h;trivial
 |true=>have h:es=[e2]:=h;subst h;exact⟨hne,trivial⟩
theorem r3{e1 e2:Bs×Value}(hne:e1.1≠e2.1){c:Bool}{es:List (Bs×Value)}(h:FH e1 e2 c false es):Gk e2.1 es:=by
 cases c with
 |false=>have h:es=[]:=h;subst h;trivial
 |true=>have h:es=[e1]:=h;subst h;exact⟨fun e=>hne e.symm,trivial⟩
section
variable {b:Nat}{R:Bool→World→Prop}{W0:World}{x:Fo}{k1 k2:Bs}{v1 v2 op:Int}{t:Array Value}{k fc tp:Nat}{wd:Bs}{pos:String}{Q:Exit→Act→World→Prop}
structure Gq(b:Nat)(R:Bool→World→Prop)(W0:World)(x:Fo)(k1:Bs)(v1:Int)(k2:Bs)(v2:Int)(op:Int)(t:Array Value)(k fc:Nat)(wd:Bs)(Q:Exit→Act→World→Prop):Prop where
 st:IQ b R
 bw:b<W0.heap.size
 hk:5<k
 hs:k+6<t.size
 t0:t[0]? =some (.pointer (some ⟨b,0,none⟩))
 t1:t[1]? =some (str wd)
 ne:k1≠k2
 wds:wd=k1∧op=v1∨wd=k2∧op=v2
 ent:∀args w,(callFunc fc args).run Tryz.prog w= .ok (.enter fc args) w
 call:∀W,W0.grownBy W (some b)→R false W→Calls Tryz.prog fc #[.pointer (some ⟨b,0,none⟩)] W fun e w'=>(∃v,e= .returned v∧W.grownBy w' (some b)∧RepL (Ap W.heap.size) w' v x∧R true w')∨(∃c,e= .panicked c∧∀a,a.defers=[]→Q (.panic c) a w')
theorem vM{i:Nat}(hi:i∈Cz):i<11:=by
 simp only[Cz,List.mem_cons,List.not_mem_nil,or_false]at hi;omega
theorem vN(H:Gq b R W0 x k1 v1 k2 v2 op t k fc wd Q){L:Array Bool}(hL:L.size=11){a:Act}{w:World}(hC:LitC (L.setIfInBounds 0 true))(h0:Ay L 0=false)(h1:Ay L 1=false)(h2:Ay L 2=false)(h3:Ay L 3=false){m s:Nat}{v:Value}(hW:LitW b R W0 x (k1,.int .i64 v1) (k2,.int .i64 v2) (Cw op) L m s v w)(hA:LitA t k b wd op L m s v a):
 wpOp Tryz.prog (EC k fc tp k1 v1 k2 v2 pos) Q 0 (Gr b R W0 x (k1,.int .i64 v1) (k2,.int .i64 v2) op t k wd (L.setIfInBounds 0 true)) a w:=by
 refine F7 rfl rfl fun K' hK=>IC (v:= .map (some w.heap.size)) (w':=w.alloc (Bh [])) ?_ (hK _ _ ⟨hC,w.heap.size,s,v,hW.make H.st hL h0 h1 h2,?_⟩)
 ·simp[execOp,Mq]
 ·refine hA.put hL H.hk H.hs (i:=0) Ad ?_;intro j hj hne hT;simp only[Cz,List.mem_cons,List.not_mem_nil,or_false]at hj;rcases hj with rfl|rfl|rfl|rfl|rfl|rfl|rfl|rfl
  ·exact absurd rfl hne
  ·rw[h3]at hT;cases hT
  all_goals rfl
theorem vO(H:Gq b R W0 x k1 v1 k2 v2 op t k fc wd Q){L:Array Bool}(hL:L.size=11){a:Act}{w:World}(hC:LitC (L.setIfInBounds 1 true))(h0:Ay L 0=true)(h1:Ay L 1=false){m s:Nat}{v:Value}(hW:LitW b R W0 x (k1,.int .i64 v1) (k2,.int .i64 v2) (Cw op) L m s v w)(hA:LitA t k b wd op L m s v a):
 wpOp Tryz.prog (EC k fc tp k1 v1 k2 v2 pos) Q 1 (Gr b R W0 x (k1,.int .i64 v1) (k2,.int .i64 v2) op t k wd (L.setIfInBounds 1 true)) a w:=by
 obtain⟨es,hm,hes,hW'⟩:=hW.ins1 H.st hL H.bw h0 h1;rw[h1]at hes;have hk:=GF (hA.at' 0 Ad h0);refine F7 rfl rfl fun K' hK=>Pk (w':=EX w m (es++[(k1,.int .i64 v1)])) ?_ (hK _ _ ⟨hC,m,s,v,hW',hA.quiet hL Ab Ad⟩);have hu:=V8 hm k1 v1 (rZ H.ne hes);simp only[C1,EV]at hk;have hc:∀u,a.eval (.const u)=u:=fun _=>rfl;simp[execOp,hk,hu,hc]
theorem vP(H:Gq b R W0 x k1 v1 k2 v2 op t k fc wd Q){L:Array Bool}(hL:L.size=11){a:Act}{w:World}(hC:LitC (L.setIfInBounds 2 true))(h0:Ay L 0=true)(h1:Ay L 2=false){m s:Nat}{v:Value}(hW:LitW b R W0 x (k1,.int .i64 v1) (k2,.int .i64 v2) (Cw op) L m s v w)(hA:LitA t k b wd op L m s v a):
 wpOp Tryz.prog (EC k fc tp k1 v1 k2 v2 pos) Q 2 (Gr b R W0 x (k1,.int .i64 v1) (k2,.int .i64 v2) op t k wd (L.setIfInBounds 2 true)) a w:=by
 obtain⟨es,hm,hes,hW'⟩:=hW.ins2 H.st hL H.bw h0 h1;rw[h1]at hes;have hk:=GF (hA.at' 0 Ad h0);refine F7 rfl rfl fun K' hK=>Pk (w':=EX w m (es++[(k2,.int .i64 v2)])) ?_ (hK _ _ ⟨hC,m,s,v,hW',hA.quiet hL Ab Ad⟩);have hu:=V8 hm k2 v2 (r3 H.ne hes);simp only[C1,EV]at hk;have hc:∀u,a.eval (.const u)=u:=fun _=>rfl;simp[execOp,hk,hu,hc]
theorem Pz(H:Gq b R W0 x k1 v1 k2 v2 op t k fc wd Q){L:Array Bool}(hL:L.size=11){a:Act}{w:World}{i:Nat}(hi:i=3∨i=4∨i=6)(hC:LitC (L.setIfInBounds i true))(h0:i=3→Ay L 0=true){m s:Nat}{v:Value}(hW:LitW b R W0 x (k1,.int .i64 v1) (k2,.int .i64 v2) (Cw op) L m s v w)(hA:LitA t k b wd op L m s v a):
 wpOp Tryz.prog (EC k fc tp k1 v1 k2 v2 pos) Q i (Gr b R W0 x (k1,.int .i64 v1) (k2,.int .i64 v2) op t k wd (L.setIfInBounds i true)) a w:=by
 have hoff:∀j,j<5→∀i∈Cz,j≠C1 k i:=by
  intro j hj i hi;have:=H.hk;exact SZ
 have e0:=GF ((hA.off 0 (hoff 0 Ab)).trans H.t0);have e1:=GF ((hA.off 1 (hoff 1 Ab)).trans H.t1);rcases hi with rfl|rfl|rfl
 ·have hk:=GF (hA.at' 0 Ad (h0 rfl));refine F7 rfl rfl fun K' hK=>IC (v:= .map (some m)) (w':=w) ?_ (hK _ _ ⟨hC,m,s,v,hW.quiet hL Ab Ad Ad Ad Ad Ad Ad,hA.put hL H.hk H.hs (i:=3) Ad fun j _ _ _=>rfl⟩);simp only[C1,EV]at hk;simp[execOp,hk]
 ·refine F7 rfl rfl fun K' hK=>IC (v:=str wd) (w':=w) ?_ (hK _ _ ⟨hC,m,s,v,hW.quiet hL Ab Ad Ad Ad Ad Ad Ad,hA.put hL H.hk H.hs (i:=4) Ad fun j _ _ _=>rfl⟩);simp[execOp,e1]
 ·refine F7 rfl rfl fun K' hK=>IC (v:= .pointer (some ⟨b,0,none⟩)) (w':=w) ?_ (hK _ _ ⟨hC,m,s,v,hW.quiet hL Ab Ad Ad Ad Ad Ad Ad,hA.put hL H.hk H.hs (i:=6) Ad fun j _ _ _=>rfl⟩);simp[execOp,e0]
theorem vQ(H:Gq b R W0 x k1 v1 k2 v2 op t k fc wd Q){L:Array Bool}(hL:L.size=11){a:Act}{w:World}(hC:LitC (L.setIfInBounds 5 true))(h0:Ay L 0=true)(h1:Ay L 1=true)(h2:Ay L 2=true)(h3:Ay L 3=true)(h4:Ay L 4=true){m s:Nat}{v:Value}(hW:LitW b R W0 x (k1,.int .i64 v1) (k2,.int .i64 v2) (Cw op) L m s v w)(hA:LitA t k b wd op L m s v a):
 wpOp Tryz.prog (EC k fc tp k1 v1 k2 v2 pos) Q 5 (Gr b R W0 x (k1,.int .i64 v1) (k2,.int .i64 v2) op t k wd (L.setIfInBounds 5 true)) a w:=by
 obtain⟨_,_,es,hm,hes⟩:=hW.map h0;rw[h1,h2]at hes;have hk3:=GF (hA.at' 3 Ad h3);have hk4:=GF (hA.at' 4 Ad h4);have hl:=zM (wd:=wd) (v:= .int .i64 op) H.ne (by
  rcases H.wds with⟨e1,e2⟩| ⟨e1,e2⟩
  ·exact .inl ⟨e1,by rw[e2]⟩
  ·exact .inr ⟨e1,by rw[e2]⟩) hes hm
 refine F7 rfl rfl fun K' hK=>IC (v:= .int .i64 op) (w':=w) ?_ (hK _ _ ⟨hC,m,s,v,hW.quiet hL Ab Ad Ad Ad Ad Ad Ad,hA.put hL H.hk H.hs (i:=5) Ad fun j _ _ _=>rfl⟩);simp only[C1,EV]at hk3 hk4;simp[execOp,hk3,hk4,hl]
theorem vR(H:Gq b R W0 x k1 v1 k2 v2 op t k fc wd Q){L:Array Bool}(hL:L.size=11){a:Act}{w:World}(hC:LitC (L.setIfInBounds 7 true))(h6:Ay L 6=true)(h7:Ay L 7=false)(h8:Ay L 8=false)(h10:Ay L 10=false){m s:Nat}{v:Value}(hW:LitW b R W0 x (k1,.int .i64 v1) (k2,.int .i64 v2) (Cw op) L m s v w)(hA:LitA t k b wd op L m s v a):
 wpOp Tryz.prog (EC k fc tp k1 v1 k2 v2 pos) Q 7 (Gr b R W0 x (k1,.int .i64 v1) (k2,.int .i64 v2) op t k wd (L.setIfInBounds 7 true)) a w:=by
 have hk:=hA.at' 6 Ad h6;simp only[C1,EV]at hk;refine F7 rfl rfl fun K' hK=>qH (f:=fc) (args:=#[.pointer (some ⟨b,0,none⟩)]) (w':=w) ?_ ?_
 ·simp[execOp,resolve,invoke,Act.eval,H.ent,go_sem,hk]
 ·refine(H.call w hW.g (by have:=hW.r;rwa[h7]at this)).mono ?_;rintro e w' (⟨v',rfl,g,hr,hR⟩| ⟨c,rfl,hq⟩)
  ·refine hK _ _ ⟨hC,m,s,v',hW.call hL H.bw h10 g hR hr,hA.put hL H.hk H.hs (i:=7) Ad ?_⟩;intro j hj hne hT;simp only[Cz,List.mem_cons,List.not_mem_nil,or_false]at hj;rcases hj with rfl|rfl|rfl|rfl|rfl|rfl|rfl|rfl
   ·rfl
   ·rfl
   ·rfl
   ·rfl
   ·rfl
   ·exact absurd rfl hne
   ·rw[h8]at hT;cases hT
   ·rfl
  ·exact hq _ hA.d
theorem tN(H:Gq b R W0 x k1 v1 k2 v2 op t k fc wd Q){L:Array Bool}(hL:L.size=11){a:Act}{w:World}(hC:LitC (L.setIfInBounds 8 true))(h5:Ay L 5=true)(h7:Ay L 7=true){m s:Nat}{v:Value}(hW:LitW b R W0 x (k1,.int .i64 v1) (k2,.int .i64 v2) (Cw op) L m s v w)(hA:LitA t k b wd op L m s v a):
 wpOp Tryz.prog (EC k fc tp k1 v1 k2 v2 pos) Q 8 (Gr b R W0 x (k1,.int .i64 v1) (k2,.int .i64 v2) op t k wd (L.setIfInBounds 8 true)) a w:=by
 have hk5:=GF (hA.at' 5 Ad h5);have hk7:=GF (hA.at' 7 Ad h7);obtain⟨_,⟨xa,xc,rfl,_⟩,_⟩:=hW.val h7;refine F7 rfl rfl fun K' hK=>IC (v:= .agg (Cw op (.slice xa x.len xc)).toArray) (w':=w) ?_ (hK _ _ ⟨hC,m,s,_,hW.quiet hL Ab Ad Ad Ad Ad Ad Ad,hA.put hL H.hk H.hs (i:=8) Ad fun j _ _ _=>rfl⟩);have hb:=sN op xa x.len xc w;simp only[C1,EV]at hk5 hk7;simp[execOp,hk5,hk7,hb]
theorem tO(H:Gq b R W0 x k1 v1 k2 v2 op t k fc wd Q){L:Array Bool}(hL:L.size=11){a:Act}{w:World}(hC:LitC (L.setIfInBounds 9 true))(h9:Ay L 9=false)(h10:Ay L 10=false){m s:Nat}{v:Value}(hW:LitW b R W0 x (k1,.int .i64 v1) (k2,.int .i64 v2) (Cw op) L m s v w)(hA:LitA t k b wd op L m s v a):
 wpOp Tryz.prog (EC k fc tp k1 v1 k2 v2 pos) Q 9 (Gr b R W0 x (k1,.int .i64 v1) (k2,.int .i64 v2) op t k wd (L.setIfInBounds 9 true)) a w:=by
 refine F7 rfl rfl fun K' hK=>IC (v:= .pointer (some ⟨w.heap.size,0,none⟩)) (w':=w.alloc (.cells (stC 0 (.slice none 0 0)).toArray 50 (0,0))) ?_ (hK _ _ ⟨hC,m,w.heap.size,v,hW.alloc H.st hL h9 h10,?_⟩)
 ·have:=sJ w;simp[execOp,this]
 ·refine hA.put hL H.hk H.hs (i:=9) Ad ?_;intro j hj hne hT;simp only[Cz,List.mem_cons,List.not_mem_nil,or_false]at hj;rcases hj with rfl|rfl|rfl|rfl|rfl|rfl|rfl|rfl
  iterate 7 rfl
  exact absurd rfl hne
theorem r4(H:Gq b R W0 x k1 v1 k2 v2 op t k fc wd Q){L:Array Bool}(hL:L.size=11){a:Act}{w:World}(hC:LitC (L.setIfInBounds 10 true))(h0:Ay L 0=true)(h7:Ay L 7=true)(h8:Ay L 8=true)(h9:Ay L 9=true)(h10:Ay L 10=false){m s:Nat}{v:Value}(hW:LitW b R W0 x (k1,.int .i64 v1) (k2,.int .i64 v2) (Cw op) L m s v w)(hA:LitA t k b wd op L m s v a):
 wpOp Tryz.prog (EC k fc tp k1 v1 k2 v2 pos) Q 10 (Gr b R W0 x (k1,.int .i64 v1) (k2,.int .i64 v2) op t k wd (L.setIfInBounds 10 true)) a w:=by
 have hk8:=hA.at' 8 Ad h8;have hk9:=hA.at' 9 Ad h9;obtain⟨_,⟨xa,xc,rfl,_⟩,_⟩:=hW.val h7;obtain⟨_,hs,_,hb⟩:=hW.new h9;rw[h10]at hb;refine F7 rfl rfl fun K' hK=>Pk (w':=set10 w s (.int .i64 op) (str []) (str []) (.slice none 0 0) (.slice xa x.len xc) (.slice none 0 0) (.int .i64 0) (.slice none 0 0) (.slice none 0 0) (.slice none 0 0)) ?_ (hK _ _ ⟨hC,m,s,_,hW.store H.st hL H.bw h0 h9 h10,hA.quiet hL Ab Ad⟩);simp only[C1,EV,Cw,List.size_toArray]at hk8 hk9;obtain⟨ck_0,ck_1,ck_2,ck_3,ck_4,ck_5,ck_6,ck_7,ck_8,ck_9,ck_f⟩:=(hb).c10;simp only[set10,set7];go_simp
theorem LitC.next{L:Array Bool}(h:LitC L)(hL:L.size=11){i:Nat}(hr:i∈Region.ready .any (EC k fc tp k1 v1 k2 v2 pos) L):LitC (L.setIfInBounds i true):=by
 obtain⟨hi,_,hd⟩:=Vt hr;have hi:i<11:=hi;refine h.set hL hi ?_;intro p hp e;have h11:i=0∨i=1∨i=2∨i=3∨i=4∨i=5∨i=6∨i=7∨i=8∨i=9∨i=10:=Ab;simp only[Jy,List.mem_cons,List.not_mem_nil,or_false]at hp;rcases h11 with rfl|rfl|rfl|rfl|rfl|rfl|rfl|rfl|rfl|rfl|rfl
 all_goals
  rcases hp with rfl|rfl|rfl|rfl|rfl|rfl|rfl|rfl|rfl|rfl|rfl|rfl<;>first| (exact absurd e Ad)| (exact hd _ rfl _ (List.mem_map.2 ⟨⟨_,.data⟩,List.mem_filter.2 ⟨by simp,rfl⟩,rfl⟩))
theorem Aay{L:Array Bool}(hL:L.size=11)(hr:Region.ready .any (EC k fc tp k1 v1 k2 v2 pos) L=[]):∀i,i<11→Ay L i=true:=by
 intro i;induction i using Nat.strongRecOn with
 | _ i ih=>
   intro hi;cases ht:Ay L i with
   |true=>rfl
   | false=>
     exfalso;have hm:i∈Region.ready .any (EC k fc tp k1 v1 k2 v2 pos) L:=by
      unfold Region.ready;refine List.mem_filter.2 ⟨List.mem_range.2 hi,?_⟩;have h1:L.getD i true=false:=by
       have:Ay L i=L.getD i true:=by
        unfold Ay;simp[Array.getD_eq_getD_getElem?,hL,hi]
       rw[←this];exact ht
      rw[h1];have h11:i=0∨i=1∨i=2∨i=3∨i=4∨i=5∨i=6∨i=7∨i=8∨i=9∨i=10:=Ab;have ih':∀j,j<i→L.getD j false=true:=fun j hj=>ih j hj Ab;rcases h11 with rfl|rfl|rfl|rfl|rfl|rfl|rfl|rfl|rfl|rfl|rfl
      all_goals
       simp only[Bool.not_false,Bool.true_and,List.getElem?_toArray,List.getElem?_cons_zero,List.getElem?_cons_succ,Option.map_some,Option.getD_some,Array.all_toList,List.all_toArray,List.all_cons,List.all_nil,Bool.and_true,Bool.and_eq_true,Bool.or_eq_true];try simp[ih']
     rw[hr]at hm;cases hm
theorem Jt(n i:Nat):Ay (Array.replicate n false) i=false:=by
 unfold Ay;rw[Array.getD_eq_getD_getElem?,Array.getElem?_replicate];split<;>rfl
theorem Jr{w:World}{id:Nat} (H:Gq b R {w with drawn:=w.drawn+1} x k1 v1 k2 v2 op t k fc wd Q) (hR:R false {w with drawn:=w.drawn+1})
 (hend:∀W m s v,({w with drawn:=w.drawn+1}:World).grownBy W (some b)→R true W→w.heap.size≤s→s<W.heap.size→RepL (fun q=>w.heap.size≤q∧q≠s) W v x→Blk W s (Cw op v) 50→
  Q .normal {tmps:=(((((((t.setIfInBounds k (.map (some m))).setIfInBounds (k+1) (.map (some m))).setIfInBounds (k+2) (str wd)).setIfInBounds (k+3) (.int .i64 op)).setIfInBounds (k+4) (.pointer (some ⟨b,0,none⟩))).setIfInBounds (k+5) v).setIfInBounds (k+6) (.agg (Cw op v).toArray)).setIfInBounds 5 (.pointer (some ⟨s,0,none⟩)),defers:=[]} W):
 (Code.region id (EC k fc tp k1 v1 k2 v2 pos) true).wp Tryz.prog Q {tmps:=t,defers:=[]} w:=by
 refine wp_region_any Bk ?_;refine wG (I:=Gr b R {w with drawn:=w.drawn+1} x (k1,.int .i64 v1) (k2,.int .i64 v2) op t k wd) ?_ ?_ _ _ _ _ Ae ?_ ?_
 ·rintro L a W hs ⟨hC,m,s,v,hW,hA⟩ i hi;have hs:L.size=11:=hs;have hN:=hC.next hs hi;obtain⟨hlt,hno,hd⟩:=Vt hi;have hlt:i<11:=hlt;have ht:Ay L i=false:=by
   unfold Ay;have:L.getD i false=L.getD i true:=by simp[Array.getD_eq_getD_getElem?,hs,hlt]
   rw[this];exact hno
  have hc:∀a b,(a,b)∈Jy→Ay L b=false→Ay L a=false:=by
   intro a b hab hb;cases h:Ay L a with
   |false=>rfl
   | true=>
     have h2:=hC (a,b) hab h;simp only at h2;rw[hb]at h2;cases h2
  have hy:∀a b,(a,b)∈Jy→a=i→Ay L b=true:=by
   intro a b hab e;subst e;have h2:=hN (a,b) hab (by rw[E6 Ab];simp);simp only at h2;rw[E6 Ab]at h2;split at h2
   ·rename_i e;subst e;simp[Jy]at hab;omega
   ·exact h2
  have h11:i=0∨i=1∨i=2∨i=3∨i=4∨i=5∨i=6∨i=7∨i=8∨i=9∨i=10:=Ab;rcases h11 with rfl|rfl|rfl|rfl|rfl|rfl|rfl|rfl|rfl|rfl|rfl
  ·exact vN H hs hN ht (hc 1 0 Ad ht) (hc 2 0 Ad ht) (hc 3 0 Ad ht) hW hA
  ·exact vO H hs hN (hy 1 0 Ad rfl) ht hW hA
  ·exact vP H hs hN (hy 2 0 Ad rfl) ht hW hA
  ·exact Pz H hs (.inl rfl) hN (fun _=>hy 3 0 Ad rfl) hW hA
  ·exact Pz H hs (.inr (.inl rfl)) hN (fun e=>by cases e) hW hA
  ·have h3:=hy 5 3 Ad rfl;exact vQ H hs hN (hC (3,0) Ad h3) (hC (3,1) Ad h3) (hC (3,2) Ad h3) h3 (hy 5 4 Ad rfl) hW hA
  ·exact Pz H hs (.inr (.inr rfl)) hN (fun e=>by cases e) hW hA
  ·have h8:=hc 8 7 Ad ht;exact vR H hs hN (hy 7 6 Ad rfl) ht h8 (hc 10 8 Ad h8) hW hA
  ·exact tN H hs hN (hy 8 5 Ad rfl) (hy 8 7 Ad rfl) hW hA
  ·exact tO H hs hN ht (hc 10 9 Ad ht) hW hA
  ·have h8:=hy 10 8 Ad rfl;have h5:=hC (8,5) Ad h8;have h3:=hC (5,3) Ad h5;exact r4 H hs hN (hC (3,0) Ad h3) (hC (8,7) Ad h8) h8 (hy 10 9 Ad rfl) ht hW hA
 ·rintro L a W hs ⟨hC,m,s,v,hW,hA⟩ hr;have hs:L.size=11:=hs;have hall:=Aay hs hr;obtain⟨s1,s2,s3,s4⟩:=hW.new (hall 9 Ab);rw[hall 10 Ab,if_pos rfl]at s4;have hr7:=hW.r;rw[hall 7 Ab]at hr7;have hval:=(hW.val (hall 7 Ab)).mono (ok':=fun q=>w.heap.size≤q∧q≠s) (fun q hq _=>⟨hq.1,hq.2.2 (hall 9 Ab)⟩);rw[hA.whole H.hk H.hs (fun i hi=>hall i (vM hi))];exact hend W m s v hW.g hr7 s1 s2 hval s4
 ·show(F5 _ _).length≤11;unfold F5;exact Nat.le_trans (List.length_filter_le _ _) Ae
 ·refine⟨?_,0,0,undef,⟨Aj _ _,?_,?_,?_,?_⟩,⟨rfl,rfl,fun j _=>rfl,?_⟩⟩
  ·intro p _ h;rw[Jt]at h;cases h
  ·rw[Jt];exact hR
  ·intro h;rw[Jt]at h;cases h
  ·intro h;rw[Jt]at h;cases h
  ·intro h;rw[Jt]at h;cases h
  ·intro i _ h;rw[Jt]at h;cases h
end
section
variable {b:Nat}{tv:Value}{l:List Tok}{day:Bs→Int}{n:Nat}
theorem xF{block:Rd l Bl}(hn:Al l)(hnn:n≤90000)(hE:CR 28 b tv l (AN l day n))(hok:∀i,At (Af l i))(hS:∀wd,wd≠[]→CL b tv l hn day n block wd){i:Nat}(hi:i<l.length){r:StB×RS}(ho:(C7 hn wordsL day n block).g (i,false)=some r):J3 b tv l i r:=by
 have ho:(if AR l wordsL i=[]then Dy hn day n else Bx hn wordsL day n block (AR l wordsL i)).g (i,false)=some r:=ho;by_cases hk:AR l wordsL i=[]
 ·rw[if_pos hk]at ho;cases hs:A2 l [63] (i,false)with
  |true=>exact oM hn hnn hE hok hk hs ho
  | false=>
    cases hm:Ak (Af l i) [38]with
    |true=>exact oL hn hE hok hk hs hm ho
    |false=>exact rK hn hnn hE hok hk hs hm ho
 ·rw[if_neg hk]at ho;exact rL hn hok hk hi (hS _ hk) ho
end
theorem Wn{w:World}{k:Nat}{L:List Bs}(h:Blk w k (L.map str) 9)(hn:L.length≤maxLen):SRow w (.slice (some ⟨k,0,none⟩) L.length L.length) L (fun q=>q=k):=by
 refine⟨_,_,rfl,Nat.le_refl _,hn,fun j hj=>⟨k,0,rfl,rfl,?_⟩⟩;rw[Nat.zero_add];refine h.cell' j ?_;simp[List.getD_eq_getElem?_getD,List.getElem?_eq_getElem hj]
def OwnB(w:World)(B:Nat)(v:Value)(a:Bl):Prop:=∃cs,w.ownsRow B 50 10 v a.len cs∧RepT (fun q=>B≤q∧v.ownBlock≠some q) w a false cs
theorem OwnB.gb{w w1:World}{B:Nat}{v:Value}{a:Bl}{r:Option Nat}(h:OwnB w B v a)(g:w.grownBy w1 r)(hk:∀k,B≤k→k<w.heap.size→some k≠r):OwnB w1 B v a:=by
 exact Oi
theorem OwnB.rep{w:World}{B:Nat}{v:Value}{a:Bl}(h:OwnB w B v a):RepV (Ap B) w false v a:=by
 obtain⟨cs,h1,h2⟩:=h;exact⟨cs,GE h1,h2.mono' fun k hk _=>hk.1⟩
theorem OwnB.fresh{w:World}{B:Nat}{v:Value}{a:Bl}(h:OwnB w B v a)(hB:B≤w.heap.size)(q:Nat)(hq:w.heap.size≤q):B≤q∧v.ownBlock≠some q:=by
 obtain⟨cs,h1,_⟩:=h;exact⟨by omega,fun e=>by have:=(h1.lt q e).2;omega⟩
theorem OwnB.snoc{w w1:World}{B j cap:Nat}{v:Value}{a:Bl}{cs:List Value}(h1:w.ownsRow B 50 10 v a.len cs)(h2:RepT (fun q=>B≤q∧v.ownBlock≠some q) w a false cs)
 {s:Sd} {c:Bl} {pa xa na fa wa ba:Option Addr} {pc xc nc fc wc bc:Nat} {okx:Nat→Prop} (k1:SdRep okx w s pa xa na fa wa pc xc nc fc wc) (k2:RepV okx w true (.slice ba c.len bc) c) (hok:∀q,okx q→q<w.heap.size→B≤q∧v.ownBlock≠some q)
 (ho:w1.ownsRow B 50 10 (.slice (some ⟨j,0,none⟩) (a.len+1) cap) (a.len+1) (cs++sdC s (.slice pa s.p.length pc) (.slice xa s.x.len xc) (.slice ba c.len bc) (.slice na s.n.len nc) (.slice fa s.f.len fc) (.slice wa s.w.len wc))) (hg:w.grownBy w1 v.ownBlock) (hat:v.ownBlock=some j∨j=w.heap.size):
 OwnB w1 B (.slice (some ⟨j,0,none⟩) (a.len+1) cap) (a.app (.st s c .nil)):=by
 have hlen:(a.app (.st s c .nil)).len=a.len+1:=by rw[Bl.len_app];rfl
 have hfr:∀q,(B≤q∧v.ownBlock≠some q)→q<w.heap.size→(B≤q∧(Value.slice (some ⟨j,0,none⟩) (a.len+1) cap).ownBlock≠some q)∧some q≠v.ownBlock:=fun q hq hl=>⟨⟨hq.1,fun e=>by(rcases I6 hat e with h|h;exact hq.2 h;omega)⟩,fun e=>hq.2 e.symm⟩;obtain⟨kcs,c1,c2⟩:=k2;have hT:RepT (fun q=>B≤q∧v.ownBlock≠some q) w (a.app (.st s c .nil)) false (cs++sdC s (.slice pa s.p.length pc) (.slice xa s.x.len xc) (.slice ba c.len bc) (.slice na s.n.len nc) (.slice fa s.f.len fc) (.slice wa s.w.len wc)):=
  h2.app ⟨pa,xa,na,fa,wa,ba,pc,xc,nc,fc,wc,bc,kcs,[],by simp,⟨k1.p.mono hok,k1.x.mono hok,k1.n.mono hok,k1.f.mono hok,k1.w.mono hok⟩,c1.mono hok,RepT.mono hok c2,rfl⟩
 exact⟨_,by rw[hlen];exact ho,((RepT.mono hfr hT).gb hg (fun q hq _=>hq.2)).mono' fun q hq _=>hq.1⟩
theorem Aa9{l:List Tok}{W:List Bs}{stp:Rd l StB}{k:Nat}{a:Bl}{i:Nat}{f:Bool}{r:Bl×RS}(h:(CY W stp k a).g (i,f)=some r):
 (f=true∧r=(a,(i,f)))∨(f=false∧EB l W i=false∧r=(a,(i,f)))∨(f=false∧EB l W i=true∧∃k' s st',k=k'+1∧stp.g (i,f)=some (s,st')∧(CY W stp k' (a.app (.st s.1 s.2 .nil))).g st'=some r):=by
 cases k with
 | zero=>
   exact ST
 | succ k=>
   unfold CY at h;rw[Rd.condN_g]at h;cases f with
   |true=>cases h;exact .inl ⟨rfl,rfl⟩
   | false=>
     cases hg:EB l W i with
     |false=>simp only[hg,Bool.and_false,Bool.false_eq_true,if_false]at h;cases h;exact .inr (.inl ⟨rfl,rfl,rfl⟩)
     | true=>
       simp only[hg,Bool.not_false,Bool.and_true,if_true]at h;obtain⟨s,st',h1,h2⟩:=Rd.bind_g h;exact .inr (.inr ⟨rfl,rfl,k,s,st',rfl,h1,h2⟩)
section
variable {w:World}{b:Nat}{tv:Value}{l:List Tok}{st:RS}
def wH(stp:Rd l StB)(b:Nat)(tv:Value)(w:World)(n:Nat)(r:Bl×RS)(g:Nat)(v:Value)(wr:World):Prop:=
 ∃a st,OwnB wr (w.heap.size+1) v a∧Rr wr b tv l st∧w.grownBy wr (some b)∧Blk wr w.heap.size (endWords.map str) 9∧a.len+g≤n∧(CY wordsL stp g a).g st=some r
theorem Vs{stp:Rd l StB}{n:Nat}(hnn:n≤100000)(hok:∀i,At (Af l i))(hS:∀i r,i<l.length→stp.g (i,false)=some r→J3 b tv l i r)(h:Rr w b tv l st){r:Bl×RS}(ho:(CY wordsL stp n .nil).g st=some r):
 Calls Tryz.prog 70 #[.pointer (some ⟨b,0,none⟩)] w (AM b tv l w (VBl w) r):=by
 have hb:=h.lt;have H:=Z (Ac hok hS);have HO:=Z (Ac h ho);clear hok hS h ho;go_enter func70,ntmps70;go_wp2_with fail;go_loopg [4] n (fun g v4 wr=>wH stp b tv w n r g v4 wr)
 case atStart=>
  have g1:=World.grownBy_alloc w (.cells (endWords.map str).toArray 9 (0,0)) none;exact⟨.nil,st,⟨[],World.ownsRow_nil _ _ _ _,rfl⟩,HO.out.1.gbN g1,AY g1,Blk.new _ _ _,by simp[Bl.len],HO.out.2⟩
 case round=>
  obtain⟨a,⟨i,f⟩,hown,hR,hgr,hends,hlen,hq⟩:=hrel;clear HO;obtain⟨ta,tc,rfl⟩:=hR.tv_eq;have c0:=hR.c0;have c1:=hR.c1;have c2:=hR.c2;have hbr:=hR.lt;have hfew:=hR.few;simp only at c1 c2;have HO:=Z (Ac hown (Ac hR (Ac hgr hends)));rcases Aa9 hq with⟨rfl,rfl⟩| ⟨rfl,hg,rfl⟩| ⟨rfl,hg,k',s,st',rfl,hs,hq'⟩
  ·clear hq hown hR hgr hends;exact ZK
  ·clear hq hown hR hgr hends;by_cases hi:i<l.length
   ·have hd:decide ((i:Int)<(l.length:Int))=true:=by simp;omega
    have HKW:=Z (show endWords.contains (AR l wordsL i)=true by
     unfold EB at hg;rw[show decide (i<l.length)=true by simpa using hi,Bool.true_and]at hg;simpa using hg)
    clear hg;have hD:=An (Aj wr none);go_wp2_with fail;go_region_held3 (fun W=>W.cell? ⟨b,0,none⟩=some (.slice ta l.length tc)∧W.cell? ⟨b,1,none⟩=some (.int .i64 i)∧W.cell? ⟨b,2,none⟩=some (.bool false)∧wr.grownBy W none) (first|exact⟨c0,c1,c2,hD⟩|exact⟨Am gA c0,Am gA c1,Am gA c2,gA⟩|exact⟨Am gF c0,Am gF c1,Am gF c2,gF⟩) (first| (go_at_call 102;refine(LW (HO.out.2.1.gbN hD) H.out.1).mono ?_;rintro e w1 ⟨rfl,g1⟩;(have gF:=Ah hD g1);clear g1)| (go_at_call 101;refine(ON (Wn (HO.out.2.2.2.gb gF Ae) Ad) _).mono ?_;rintro e w2 ⟨rfl,g2⟩;rw[HKW.out];(have gA:=Ah gF g2);clear g2));all_goals
     go_wp2;go_ret;exact⟨A0 HO.out.2.2.1 (gA),_,rfl,RepV.mono' (HO.out.1.gb (gA) Ae).rep (fun q hq _=>Nat.le_of_succ_le hq),HO.out.2.1.gbN (gA)⟩
   ·have hd:decide ((i:Int)<(l.length:Int))=false:=by simp;omega
    clear hg;exact ZK
  ·clear hq hown hR hgr hends;have hgg:i<l.length∧endWords.contains (AR l wordsL i)=false:=by
    unfold EB at hg;simpa using hg
   have hi:=hgg.1;have hd:decide ((i:Int)<(l.length:Int))=true:=Ag;have HKW:=Z hgg.2;have HS:=Z (Ac (H.out.2 i _ hi hs) hq');have hm1:a.len+1≤n:=Ab;obtain⟨s1,c1'⟩:=s;clear hg hgg hs hq';have hD:=An (Aj wr none);go_wp2_with fail;go_region_held3 (fun W=>W.cell? ⟨b,0,none⟩=some (.slice ta l.length tc)∧W.cell? ⟨b,1,none⟩=some (.int .i64 i)∧W.cell? ⟨b,2,none⟩=some (.bool false)∧wr.grownBy W none) (first|exact⟨c0,c1,c2,hD⟩|exact⟨Am gA c0,Am gA c1,Am gA c2,gA⟩|exact⟨Am gF c0,Am gF c1,Am gF c2,gF⟩) (first| (go_at_call 102;refine(LW (HO.out.2.1.gbN hD) H.out.1).mono ?_;rintro e w1 ⟨rfl,g1⟩;(have gF:=Ah hD g1);clear g1)| (go_at_call 101;refine(ON (Wn (HO.out.2.2.2.gb gF Ae) Ad) _).mono ?_;rintro e w2 ⟨rfl,g2⟩;rw[HKW.out];(have gA:=Ah gF g2);clear g2));all_goals
    have hs2:=gA.size;have HA:=Z (Ac (HO.out.1.gb gA Ae) (Ac (HO.out.2.1.gbN gA) (Ac (A0 HO.out.2.2.1 gA) (HO.out.2.2.2.gb gA Ae))));clear gA;go_wp2_with fail;refine(HS.out.1 _ HA.out.2.1).mono ?_;rintro e w3 ⟨g3,v,rfl,hv,h3⟩;obtain⟨pa,xa,na,fa,wa,ba,pc,xc,nc,fc,wc,bc,rfl,k1,k2⟩:=hv;simp only at k1 k2 h3;have hs3:=g3.size;have hwz:=HA.out.2.2.2.lt;have bY{P}(h:P:=by
    obtain⟨cs,ho3,hr3⟩:=(HA.out.1.gb g3 If).gb gN Ae;obtain⟨i0,hi0,hz0,hz1,hz2⟩:=info_parts Xb;have HI:=Z (Ac hi0 (Ac hz0 (Ac hz1 hz2)));have HB:=Z (Ac ho3 (Ac hr3 (Ac (k1.gb gN Ae) (Ac (k2.gb gN Ae) (Ac (h3.gbN gN) (Ac (A0 (Ah HA.out.2.2.1 g3) gN) ((HA.out.2.2.2.gb g3 Ag).gb gN Ae)))))));have HFr:=Z (fun q hq=>HA.out.1.fresh Ab q hq);clear hi0 hz0 hz1 hz2 ho3 hr3 k1 k2 h3 gN g3;simp only[sdC];go_wp2_with (at_builtin;go_loud(refine wpList_append_lies _ rfl _ _ 43 rfl (w.heap.size+1) 50 i0 _ 10 192 underlying43 HI.out.1 HI.out.2.1 HI.out.2.2.1 HI.out.2.2.2 rfl Ad _ _ cs rfl HB.out.1 ⟨w3.heap.size,0,none⟩ 1 1 (sdC s1 (.slice pa s1.p.length pc) (.slice xa s1.x.len xc) (.slice ba c1'.len bc) (.slice na s1.n.len nc) (.slice fa s1.f.len fc) (.slice wa s1.w.len wc)) rfl rfl (Bu _ _ _) (by simp[sdC,Value.oneCell']) Ad AI Ab Ag _ rfl ?_;intro j cap w7 hown hgrow hat hlt;(have HE:=Z (Ac (OwnB.snoc HB.out.1 HB.out.2.1 HB.out.2.2.1 HB.out.2.2.2.1 (fun q hq _=>HFr.out q hq) hown hgrow hat) (Ac (HB.out.2.2.2.2.1.gb hgrow (fun q hq=>by have:=(HB.out.1.lt q hq).1;omega)) (Ac (C0 HB.out.2.2.2.2.2.1 hgrow (fun q hq=>by have:=(HB.out.1.lt q hq).1;omega)) (HB.out.2.2.2.2.2.2.gb hgrow (fun e=>by have:=(HB.out.1.lt _ e.symm).1;omega))))));clear hown hgrow hat));go_roundg k'
    case measure=>omega
    case rel=>exact⟨_,_,HE.out.1,HE.out.2.1,HE.out.2.2.1,HE.out.2.2.2,by rw[Bl.len_app];simp only[Bl.len];omega,HS.out.2⟩):=Aa h;exact S2
end
section
open Rd
variable {l:List Tok}(hn:Al l)(W:List Bs)(day:Bs→Int){n m:Nat}{block:Rd l Bl}
theorem Dr:EndsS (B2 hn day n) n:=fun i h1 h2=>(K5 (l:=l) day n i).nx Ab
theorem Pp:EndsS (J5 hn day n) n:=fun i h1 h2=>(Pe (o:=True) (n:=n) (fun q hq=>(K5 (l:=l) day n q).weak (fun _=>by omega)) (fun _=>by omega)).nx trivial
theorem rP:EndsS (Xp hn n) n:=fun i h1 h2=>(UI (o:=True) (fun _=>by omega)).nx trivial
theorem qE:EndsS (PU hn day n) n:=fun i h1 h2=>(UG (o:=True) (fun _ q hq=>(K5 (l:=l) day n q).weak (fun _=>by omega))).nx trivial
theorem Ps:Ends (GO hn day n) n:=qB (Ends.pure _) ((Dr hn day).weak.bind fun _=>Ends.pure _)
theorem UV{α:Type}{s:Bs}{step:α→Rd l α}{k:Nat}(h:∀a,Ends (step a) m)(hk:m≤k+1)(a:α):Ends (Rd.moreS s step k a) m:=fun i h1 h2=>rN h k a i h1 Ab h2
theorem nC{α:Type}{w:Bs}(hw:w≠[]){step:α→Rd l α}{k:Nat}(h:∀a,Ends (step a) (m-1))(hk:m≤k+1)(a:α):Ends (Rd.moreW W w step k a) m:=fun i h1 h2=>rO hw h k a i h1 Ab h2
theorem Uf(a:List Bs×Fo):Ends (Ez hn day n a) n:=
 (Ds hn).weak.bind fun _=>(Hl ((Dr hn day).weak.le Ab) (Ends.pure _)).bind fun _=>Ends.pure _
theorem mM(w:Bs):Ends (CH hn day n w) (n-1):=
 ((Uf hn day _).le Ab).bind fun a=>(UV (fun a=>(Uf hn day a).le Ab) Ab a).bind fun _=>ends_fin.weak.bind fun _=>Ends.pure _
theorem Pr(hb:Ends block (n-1))(a:Fo×Bl):Ends (BS hn day n block a) (n-1):=
 ((Dr hn day).weak.le Ab).bind fun _=>ends_fin.weak.bind fun _=>hb.bind fun _=>Ends.pure _
theorem UU(hb:Ends block (n-1)){more other last:Bs}(h1:more≠[])(h2:other≠[])(h3:last≠[]):Ends (DY hn W day n block more other last) (n-1):=
 (Pr hn day hb _).bind fun a=>(nC W h1 (fun a=>(Pr hn day hb a).le Ab) Ab a).bind fun a=>
  (Gf h2 (ends_fin.weak.bind fun _=>(hb.le Ab).bind fun _=>Ends.pure _) (Ends.pure _)).bind fun _=>(DJ h3).weak.bind fun _=>ends_fin.weak.bind fun _=>Ends.pure _
theorem AaI(hb:Ends block (n-1)):Ends (doP hn W day n block) (n-1):=
 Gf Ad (ends_fin.weak.bind fun _=>(DJ Ad).weak.bind fun _=>(UU hn W day hb Ad Ad Ad).le Ab)
  (Gf Ad (((Pr hn day hb _).le Ab).bind fun a=>(DJ Ad).weak.bind fun _=>ends_fin.weak.bind fun _=>Ends.pure _)
   ((Ds hn).weak.bind fun s=>(Gf Ad ((Pp hn day).weak.le Ab) (Ends.pure _)).bind fun _=>ends_fin.weak.bind fun _=>Ends.pure _))
theorem uW(hb:Ends block (n-1)):Ends (Fb hn W day n block) (n-1):=
 (Ds hn).weak.bind fun _=>(K3 _).weak.bind fun _=>((Dr hn day).weak.le Ab).bind fun _=>(DJ Ad).weak.bind fun _=>((Dr hn day).weak.le Ab).bind fun _=>
  (Gf Ad ((Dr hn day).weak.le Ab) (Ends.pure _)).bind fun _=>ends_fin.weak.bind fun _=>hb.bind fun _=>(DJ Ad).weak.bind fun _=>ends_fin.weak.bind fun _=>Ends.pure _
theorem qC(hb:Ends block (n-1)):Ends (ET hn W block) (n-1):=
 (DJ Ad).weak.bind fun _=>ends_fin.weak.bind fun _=>hb.bind fun _=>
  (Gf Ad ((Gf Ad (Ds hn).weak (Ends.pure _)).bind fun _=>ends_fin.weak.bind fun _=>(hb.le Ab).bind fun _=>Ends.pure _) (Ends.pure _)).bind fun _=>
   (DJ Ad).weak.bind fun _=>ends_fin.weak.bind fun _=>Ends.pure _
theorem PM{α:Type}{q:Rd l α}{i:Nat}(hi:i<l.length)(hq:Nx l (i+1) (q.f (i+1))):NxS l i ((Rd.skip.bind fun _=>q).f i):=by
 show NxS l i (q.f (i+1));revert hq;exact TD
theorem M3{α β:Type}{P:Rd l α}{Q:α→Rd l β}{i:Nat}(hP:Nx l i (P.f i))(hQ:∀a j,i≤j→j≤l.length→Nx l j ((Q a).f j)):Nx l i ((P.bind Q).f i):=by
 show Nx l i ((P.f i).bind _);cases hr:P.f i with
 | ok a j=>
   rw[hr]at hP;have hq:=hQ a j hP.1 hP.2;show Nx l i ((Q a).f j);revert hq;cases(Q a).f j with
   |ok b k=>exact fun hq=>⟨Nat.le_trans hP.1 hq.1,hq.2⟩
   |bad k=>exact fun _=>trivial
   |out=>exact id
 |bad k=>trivial
 |out=>rw[hr]at hP;exact hP
theorem rV:AQ []=0:=Ad
theorem rR:∀k c i,i≤l.length→l.length+1≤k+i→l.length+2≤n+i→Nx l i ((Ba hn W day n k c).f i):=by
 intro k;induction k with
 |zero=>intro c i h1 h2;omega
 | succ k ih=>
   intro c i h1 h2 h3;have step:∀(hi:i<l.length)(F:Ex→ScM),Nx l i (((Rd.skip.bind fun _=>(B2 hn day n).bind fun x=>Ba hn W day n k (F x)):Rd l ScM).f i):=fun hi F=>
    (PM hi (M3 ((Dr hn day).weak (i+1) hi Ab) (fun x j h4 h5=>ih (F x) j h5 Ab Ab))).weak
   unfold Ba;show Nx l i ((if AQ (Av l W i)≠0∧c.kind=0 then _ else _:Rd l ScM).f i);generalize hw:Av l W i=w at*;have hlt:w≠[]→i<l.length:=fun h=>Co (W:=W) (by rw[hw];exact h);split
   ·rename_i h;have hi:=hlt (fun e=>h.1 (by rw[e];exact rV));split
    ·exact step hi _
    ·exact(PM hi (ih _ (i+1) hi Ab Ab)).weak
   ·split
    ·rename_i h;exact step (hlt (by rw[h.1];decide)) _
    ·split
     ·rename_i h;exact step (hlt (by rw[h.1];decide)) _
     ·exact⟨Nat.le_refl _,h1⟩
theorem nD(c:ScM):Ends (Ba hn W day n n c) (n-1):=fun i h1 h2=>rR hn W day n c i h1 Ab Ab
theorem Ug(a:List Bs×Fo):Ends (CX hn W day n a) n:=
 (Ds hn).weak.bind fun _=>(DJ Ad).weak.bind fun _=>(Dr hn day).weak.bind fun _=>Ends.pure _
theorem Mh{α:Type}{Q:Bs→Rd l α}(h:∀w i,Av l W i=w→i≤l.length→l.length+2≤n+i→Nx l i ((Q w).f i)):Ends ((here W).bind Q) n:=fun i h1 h2=>h _ i rfl h1 h2
theorem Kw{α:Type}{q:Rd l α}{i:Nat}(hq:Ends q n)(hi:i<l.length)(h2:l.length+2≤n+i):Nx l i ((Rd.skip.bind fun _=>q).f i):=(E4 (hq.le Ab) hi h2).weak
theorem qD(s:Sd):Ends (FC hn W day n s) (n-1):=
 (DJ Ad).weak.bind fun _=>((Dr hn day).weak.le Ab).bind fun _=>(DJ Ad).weak.bind fun _=>(Ds hn).weak.bind fun _=>
  (Gf Ad (((Dr hn day).weak.le Ab).bind fun _=>Ends.pure _) (Ends.pure _)).bind fun _=>
   Mh W fun w i hw h1 h2=>M3 (by
    split
    ·rename_i h
     exact Kw (n:=n-1) (Ends.pure _) (Co (W:=W) (by rw[hw];rcases h with h|h<;>rw[h]<;>decide)) h2
    ·exact⟨Nat.le_refl _,h1⟩) (fun t j h4 h5=>Ends.bind (n:=n-1) (Gf Ad (Ends.pure _) (Ends.pure _)) (fun _=>Ends.pure _) j h5 Ab)
theorem mN(s:Sd):Ends (F2 hn W day n s) (n-1):=Mh W fun w i hw h1 h2=>by
 have hlt:w≠[]→i<l.length:=fun h=>Co (W:=W) (by rw[hw];exact h)
 split
 ·rename_i h
  refine Kw (n:=n-1) ?_ (hlt (by rcases h with h|h<;>rw[h]<;>decide)) h2
  refine Mh W fun t i ht h1 h2=>?_
  split
  ·rename_i h
   exact Kw (n:=n-1) (Ends.pure _) (Co (W:=W) (by rw[ht];rcases h with h|h<;>rw[h]<;>decide)) h2
  ·exact trivial
 ·split
  ·rename_i h
   refine Kw (n:=n-1) ?_ (hlt (by rcases h with h|h|h<;>rw[h]<;>decide)) h2
   refine(DJ Ad).weak.bind fun _=>Mg (Ends.pure _) ?_
   split
   ·exact(Ds hn).weak.bind fun _=>Ends.pure _
   ·split
    ·exact((Dr hn day).weak.le Ab).bind fun _=>Ends.pure _
    ·exact((Dr hn day).weak.le Ab).bind fun _=>(DJ Ad).weak.bind fun _=>(Ds hn).weak.bind fun _=>Ends.pure _
  ·exact trivial
theorem AaJ(s:Sd):Ends (goP hn W day n s) (n-1):=Mh W fun w i hw h1 h2=>by
 show Nx l i (if(w==El||w==Er)&&Rd.atEnd l (i+1)then(Rd.skip.bind fun _=>Rd.pure _:Rd l Sd).f i else _)
 split
 ·rename_i h
  simp only[Bool.and_eq_true,Bool.or_eq_true,beq_iff_eq]at h
  exact Kw (n:=n-1) (Ends.pure _) (Co (W:=W) (by rw[hw];rcases h.1 with h|h<;>rw[h]<;>decide)) h2
 ·exact Ends.bind (n:=n-1) ((Dr hn day).weak.le Ab) (fun _=>Ends.pure _) i h1 h2
theorem zE{α:Type}{c:Prop} [Decidable c] {p q:Rd l α} (hp:Ends p m) (hq:Ends q m):Ends (if c then p else q) m:=by
 by_cases h:c
 ·rw[if_pos h];exact hp
 ·rw[if_neg h];exact hq
theorem mK(w:Bs):Ends (BG hn W day n w) (n-1):=by
 unfold BG;have hx:=(Dr hn day (n:=n)).weak.le (n:=n-1) Ab;have hs:=nD hn W day (n:=n) B7;repeat' refine zE ?_ ?_
 ·exact(Ds hn).weak.bind fun _=>Ends.pure _
 ·exact Mg (Ends.pure _) ((Ds hn).weak.bind fun _=>(Gf Ad ((Ds hn).weak.bind fun _=>Ends.pure _) (Ends.pure _)).bind fun _=>Ends.pure _)
 ·exact AaJ hn W day _
 ·exact((Ps hn day).le Ab).bind fun _=>Ends.pure _
 ·exact hx.bind fun _=>Ends.pure _
 ·exact Ends.pure _
 ·exact(DJ Ad).weak.bind fun _=>Ends.pure _
 ·exact hs.bind fun _=>Ends.pure _
 ·exact((Ug hn W day _).le Ab).bind fun a=>(UV (fun a=>(Ug hn W day a).le Ab) Ab a).bind fun _=>hs.bind fun _=>Ends.pure _
 ·exact(DJ Ad).weak.bind fun _=>(Ds hn).weak.bind fun _=>hs.bind fun _=>Ends.pure _
 ·exact hx.bind fun _=>(DJ Ad).weak.bind fun _=>(Ds hn).weak.bind fun _=>hs.bind fun _=>Ends.pure _
 ·exact qD hn W day _
 ·exact mN hn W day _
theorem uY(hb:Ends block (n-1))(w:Bs){i:Nat}(hi:i<l.length)(h2:l.length+2≤n+i):NxS l i ((Bx hn W day n block w).f i):=by
 unfold Bx;have hf:Ends ((Rd.fin.bind fun _=>Rd.pure (sd0 6 [],Bl.nil)):Rd l StB) (n-1):=ends_fin.weak.bind fun _=>Ends.pure _;repeat' split
 ·exact E4 (mM hn day w) hi h2
 ·exact E4 (UU hn W day hb Ad Ad Ad) hi h2
 ·exact E4 (AaI hn W day hb) hi h2
 ·exact E4 (uW hn W day hb) hi h2
 ·exact E4 (ends_fin.weak.bind fun _=>Ends.pure _) hi h2
 ·exact E4 (ends_fin.weak.bind fun _=>Ends.pure _) hi h2
 ·exact E4 (((Ps hn day).le Ab).bind fun _=>ends_fin.weak.bind fun _=>Ends.pure _) hi h2
 ·exact E4 (((Ps hn day).le Ab).bind fun _=>ends_fin.weak.bind fun _=>Ends.pure _) hi h2
 ·exact E4 (qC hn W hb) hi h2
 ·exact E4 ((mK hn W day w).bind fun _=>ends_fin.weak.bind fun _=>Ends.pure _) hi h2
 ·exact trivial
theorem Mv(t:Ex):Ends (setP hn day n t) n:=
 (Hl (Ends.pure _) (K3 _).weak).bind fun _=>(Dr hn day).weak.bind fun _=>ends_fin.weak.bind fun _=>Ends.pure _
theorem vA(s:Bs):Ends (JB hn day n s) n:=
 Hl ((Hl (Ends.pure _) (((Pp hn day).weak.le Ab).bind fun _=>(K3 _).weak.bind fun _=>Ends.pure _)).bind fun _=>ends_fin.weak.bind fun _=>Ends.pure _)
  (Hl (((Dr hn day).weak.le Ab).bind fun _=>(K3 _).weak.bind fun _=>(Mv hn day _).le Ab)
   (Hl ((Ds hn).weak.bind fun _=>(Mv hn day _).le Ab) (Mv hn day _)))
theorem rQ:EndsS (Dy hn day n) n:=
 uU ((Mg (Ends.pure _) ((Pp hn day).weak.le Ab)).bind fun _=>ends_fin.weak.bind fun _=>Ends.pure _)
  (qA ((qE hn day).bind fun t=>(Mv hn day t).le Ab) ((Ds hn).bind fun s=>(vA hn day s).le Ab))
theorem uZ(hb:Ends block (n-1)):EndsS (C7 hn W day n block) n:=by
 intro i h1 h2;show NxS l i ((if AR l W i=[]then Dy hn day n else Bx hn W day n block (AR l W i)).f i);split
 ·exact rQ hn day i h1 h2
 ·rename_i h;exact uY hn W day hb _ (Aaq h) h2
end
section
open Rd
variable {l:List Tok}(hn:Al l)(W:List Bs)(day:Bs→Int)
theorem kL{n:Nat}{st:Rd l StB}(h:EndsS st n):∀k a i,i≤l.length→l.length+1≤k+i→l.length+2≤n+i→Nx l i ((CY W st k a).f i):=by
 intro k;induction k with
 |zero=>intro a i h1 h2;omega
 | succ k ih=>
   intro a i h1 h2 h3;show Nx l i (if EB l W i then(st.bind fun r=>CY W st k (a.app (.st r.1 r.2 .nil))).f i else .ok a i);split
   ·have h0:=h i h1 h3;show Nx l i ((st.f i).bind _);cases hr:st.f i with
    | ok b j=>
      rw[hr]at h0;have hq:=ih (a.app (.st b.1 b.2 .nil)) j h0.2 JO JO;rw[Res.bind_ok];revert hq;cases(CY W st k (a.app (.st b.1 b.2 .nil))).f j with
      |ok b k=>exact fun h=>⟨by have:=h.1;have:=h0.1;omega,h.2⟩
      |bad k=>exact id
      |out=>exact id
    |bad k=>trivial
    |out=>rw[hr]at h0;exact h0
   ·exact⟨Nat.le_refl _,h1⟩
theorem Vb:∀m,Ends (Dv hn W day m) (m-1):=by
 intro m;induction m with
 |zero=>intro i h1 h2;omega
 |succ n ih=>exact fun i h1 h2=>kL W (uZ hn W day (n:=n) ih) n .nil i h1 Ab Ab
theorem uX(n:Nat)(a:List Pq)(fn:Bool):Ends (Fd hn W day n a fn) (n-1):=
 (Ds hn).weak.bind fun _=>(Hl (Hl (Ends.pure _) (((rP hn (n:=n)).weak.le Ab).bind fun _=>(K3 _).weak.bind fun _=>Ends.pure _)) (Ends.pure _)).bind fun _=>
  ends_fin.weak.bind fun _=>(Vb hn W day n).bind fun _=>Ends.pure _
theorem lL(n:Nat):∀k a i,i≤l.length→l.length+1≤k+i→l.length+2≤(n-1)+i→Nx l i ((Dp hn W day n k a).f i):=by
 intro k;induction k with
 |zero=>intro a i h1 h2;omega
 | succ k ih=>
   intro a i h1 h2 h3;show Nx l i (if decide (i<l.length)then(if Av l W i=Ee∨Av l W i=Ce then(Rd.skip.bind fun _=>(Fd hn W day n a (Av l W i==Ce)).bind fun a=>Dp hn W day n k a)else Rd.bad a:Rd l (List Pq)).f i else .ok a i);split
   ·rename_i hi;simp only[decide_eq_true_eq]at hi;split
    ·exact(PM hi (M3 (uX hn W day n a _ (i+1) hi Ab) (fun x j h4 h5=>ih x j h5 Ab Ab))).weak
    ·exact trivial
   ·exact⟨Nat.le_refl _,h1⟩
theorem VT(n:Nat)(h:l.length+3≤n):Nx l 0 ((BM hn W day n).f 0):=
 M3 (Vb hn W day n 0 (Nat.zero_le _) Ab) (fun b j _ h5=>lL hn W day n n _ j h5 Ab Ab)
end
end Go.Proofs.YtmcajbhljbbglaaGreatDoor
