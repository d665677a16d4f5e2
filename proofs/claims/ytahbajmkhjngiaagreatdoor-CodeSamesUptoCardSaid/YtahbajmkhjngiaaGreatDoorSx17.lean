/-
  The empty program is right.
-/
import Derived.Test.YtahbajmkhjngiaaGreatDoorSx11
import Derived.Deep.RegionWith
set_option linter.all false
set_option maxRecDepth 100000
set_option maxHeartbeats 8000000
namespace Go.Proofs.YtahbajmkhjngiaaGreatDoor
open Go.Proofs.Tryz
open Go.RowKit
theorem CT{fn:Func}{p:Tmp}(h:fn.results=#[.cell p 72])(tmps:Array Value){w:World}{k:Nat}{a b:Value}(hb:Blk w k [a,b] 72)
 (hp:tmps.getD p undef= .pointer (some ⟨k,0,none⟩)):(results fn tmps).run Tryz.prog w= .ok (.agg #[a,b]) w:=by
 have c0:=hb.cell 0;have c1:=hb.cell 1;have hp':tmps[p]?.getD undef= .pointer (some ⟨k,0,none⟩):=by simpa using hp
 simp only[List.getElem?_cons_zero,List.getElem?_cons_succ]at c0 c1;simp[results,h,hp',go_sem,c0,c1]
theorem Blk.set2K{w:World}{k:Nat}{a0 a1:Value}{t:TypeId}(h:Blk w k [a0,a1] t)(v0 v1:Value):Blk ((w.setCell ⟨k,0,none⟩ v0).setCell ⟨k,1,none⟩ v1) k [v0,v1] t:=
 ((h.set 0 v0).set 1 v1).of_eq rfl rfl
structure AccK(w wr:World):Prop where
 res:Blk wr w.heap.size [.int .i64 0,.int .i64 0] 72
 acc:Blk wr (w.heap.size+1) [.int .i64 0,.int .i64 0] 72
 g:w.grownBy wr none
theorem AccK.start(w:World):AccK w ((w.alloc (.cells #[.int .i64 0,.int .i64 0] 72 (0,0))).alloc (.cells #[.int .i64 0,.int .i64 0] 72 (0,0))):=
 ⟨(Blk.new w [.int .i64 0,.int .i64 0] _).alloc _,(Blk.new _ [.int .i64 0,.int .i64 0] _).of_eq (by simp) rfl,Y (World.grownBy_alloc w _ none) _⟩
theorem Cs{w:World}{G c:Nat}(h:Blk w G mainC 41):
 Calls Tryz.prog 42 #[.slice (some ⟨G,0,none⟩) 1 c] w fun e w'=>e= .returned (szK 0 0)∧w.grownBy w' none:=by
 have HB:=D h;have HA:=D (AccK.start w);clear h;go_enter func42,ntmps42;go_wp2_with fail;go_loopg [5,8] 1 (fun g v5 v8 wr=>∃k:Nat,k+g=1∧v8= .int .i64 k∧AccK w wr)
 case atStart=>exact⟨0,rfl,rfl,HA.out⟩
 case round=>
  obtain⟨k,hk,rfl,hA⟩:=hrel;clear HA;have a0:=hA.acc.cell 0;have a1:=hA.acc.cell 1;have r0:=hA.res.cell 0;have r1:=hA.res.cell 1;have rf:=fun k=>hA.res.frozen k;have rl:=hA.res.lt;have af:=fun k=>hA.acc.frozen k;have al:=hA.acc.lt;simp only[List.getElem?_cons_zero,List.getElem?_cons_succ]at a0 a1 r0 r1;cases gk with
  | zero=>
    have hk1:k=1:=by omega
    subst hk1;have HG:=D hA;clear hA;go_wp2;refine bodyPost_ret (CT rfl _ (HG.out.res.set2K _ _) rfl) rfl ⟨rfl,?_⟩;have g:=HG.out.g;exact (by repeat(first| (with_reducible exact N _ _)| (with_reducible assumption)| (with_reducible exact AQ (by assumption))| (with_reducible refine Y ?_ _)| (with_reducible refine Ae ?_)| (with_reducible refine Af ?_ _)| ((with_reducible refine Am ?_ _ _ ?h2);case h2=>first|exact .inl rfl|exact .inr (Nat.le_refl _)|exact .inr (by simp<;>omega))| (with_reducible refine AO ?_ (by assumption))| (with_reducible refine M ?_ (by assumption))))
  | succ gk=>
    have hk0:k=0:=by omega
    subst hk0;have hb:=HB.out.gb hA.g (by simp);have z0:=hb.cell 0;have z1:=hb.cell 1;have z2:=hb.cell 2;have z3:=hb.cell 3;simp only[List.getElem?_cons_zero,List.getElem?_cons_succ]at z0 z1 z2 z3;have hgl:=hb.lt;have hy:=Blk.new wr mainC 41;have hac:=hA.acc.alloc (.cells mainC.toArray 41 (0,0));have HG:=D hA;have HY:=D (I hy hac);have q0:=hy.cell' 0 rfl;have q1:=hy.cell' 1 rfl;have q2:=hy.cell' 2 rfl;have q3:=hy.cell' 3 rfl;have hyl:=hy.lt;clear hb hy hac hA;go_wp2_with fail;go_region_with(first
     | (go_at_call 60;refine(Ct _).mono ?_;rintro e w5 ⟨rfl,g5⟩;(have y5:=(HY.out.1.drewN 1).gb g5 (by simp));(have ac5:=(HY.out.2.drewN 1).gb g5 (by simp));(have b0:=y5.cell' 0 rfl);(have b1:=y5.cell' 1 rfl);(have b2:=y5.cell' 2 rfl);(have b3:=y5.cell' 3 rfl);(have d0:=ac5.cell 0);(have d1:=ac5.cell 1);(have df:=fun k=>ac5.frozen k);(have dl:=ac5.lt);(simp only[List.getElem?_cons_zero,List.getElem?_cons_succ]at d0 d1))
     | (go_at_call 59;refine(BS _).mono ?_;rintro e w6 ⟨rfl,g6⟩;(have ac6:=ac5.gb g6 (by simp));(have m0:=ac6.cell 0);(have m1:=ac6.cell 1);(have mf:=fun k=>ac6.frozen k);(have ml:=ac6.lt);(simp only[List.getElem?_cons_zero,List.getElem?_cons_succ]at m0 m1)))
    all_goals
     have hre:=((((HG.out.res.alloc (.cells mainC.toArray 41 (0,0))).drewN 1).gb g5 (by simp)).gb g6 (by simp));have gg:=AO (AO (Ae (Y HG.out.g (.cells mainC.toArray 41 (0,0)))) g5) g6;have HX:=D (I ac6 (I hre gg));clear hre gg;go_wp2;go_roundg gk
     case measure=>omega
     case rel=>exact⟨1,by omega,rfl,(HX.out.2.1.set_other _ _ (by simp)).set_other _ _ (by simp),HX.out.1.set2K _ _,by have g:=HX.out.2.2;exact (by repeat(first| (with_reducible exact N _ _)| (with_reducible assumption)| (with_reducible exact AQ (by assumption))| (with_reducible refine Y ?_ _)| (with_reducible refine Ae ?_)| (with_reducible refine Af ?_ _)| ((with_reducible refine Am ?_ _ _ ?h2);case h2=>first|exact .inl rfl|exact .inr (Nat.le_refl _)|exact .inr (by simp<;>omega))| (with_reducible refine AO ?_ (by assumption))| (with_reducible refine M ?_ (by assumption))))⟩
theorem Da{w:World}{G c:Nat}(h:Blk w G mainC 41):
 Calls Tryz.prog 29 #[.slice (some ⟨G,0,none⟩) 1 c] w fun e w'=>e= .returned (.int .i64 0)∧w.grownBy w' none:=by
 have HB:=D h;clear h;go_enter func29,ntmps29;go_wp2_with fail;refine(Cs HB.out).mono ?_;rintro e w1 ⟨rfl,g1⟩;go_wp2_with fail;refine(Cn w1).mono ?_;rintro e w2 ⟨rfl,g2⟩;have hb:=HB.out.gb (M g1 g2) (by simp);have HG:=D (I hb (M g1 g2));have z0:=hb.cell 0;have z1:=hb.cell 1;have z2:=hb.cell 2;have z3:=hb.cell 3;simp only[List.getElem?_cons_zero,List.getElem?_cons_succ]at z0 z1 z2 z3;clear hb g1 g2;go_wp2_with fail;refine(Co HG.out.1).mono ?_;rintro e w3 ⟨rfl,g3⟩;have H3:=D (I (HG.out.1.gb g3 (by simp)) (M HG.out.2 g3));clear g3 z0 z1 z2 z3;go_wp2_with fail;go_loopg [4,38] 1 (fun g v4 v38 wr=>∃k:Nat,k+g=1∧v38= .int .i64 k∧Blk wr G mainC 41∧w.grownBy wr none)
 case atStart=>exact⟨0,rfl,rfl,H3.out.1,H3.out.2⟩
 case round=>
  obtain⟨k,hk,rfl,hb,hg⟩:=hrel;clear H3;cases gk with
  | zero=>
    have hk1:k=1:=by omega
    subst hk1;have HX:=D hg;clear hg hb;go_wp2;go_ret;exact⟨rfl,HX.out⟩
  | succ gk=>
    have hk0:k=0:=by omega
    subst hk0;have z0:=hb.cell 0;have z1:=hb.cell 1;have z2:=hb.cell 2;have z3:=hb.cell 3;simp only[List.getElem?_cons_zero,List.getElem?_cons_succ]at z0 z1 z2 z3;have hgl:=hb.lt;have gA:=World.grownBy_alloc wr (.cells mainC.toArray 41 (0,0)) none;have HX:=D (I (hb.gb gA (by simp)) (I (M hg gA) (Blk.new wr mainC 41)));clear hb hg gA;go_wp2_with fail;refine(CO mainB _ (by decide)).mono ?_;rintro e w4 ⟨rfl,g4⟩;have hnm:Ay mainB=true:=by decide
    rw[hnm];have H4:=D (I (HX.out.1.gb g4 (by simp)) (I (M HX.out.2.1 g4) (HX.out.2.2.gb g4 (by simp))));have q2:=H4.out.2.2.cell 2;have q3:=H4.out.2.2.cell 3;simp only[List.getElem?_cons_zero,List.getElem?_cons_succ]at q2 q3;clear g4 hnm;go_wp2_with fail;refine(C4 _).mono ?_;rintro e w5 ⟨rfl,g5⟩;have H5:=D (I (H4.out.1.gb g5 (by simp)) (I (M H4.out.2.1 g5) (H4.out.2.2.gb g5 (by simp))));have p3:=H5.out.2.2.cell 3;simp only[List.getElem?_cons_zero,List.getElem?_cons_succ]at p3;clear g5;go_wp2_with fail;refine(C5 _).mono ?_;rintro e w6 ⟨rfl,g6⟩;have H6:=D (I (H5.out.1.gb g6 (by simp)) (M H5.out.2.1 g6));clear g6;go_wp2;go_roundg gk
    case measure=>omega
    case rel=>exact⟨1,by omega,rfl,H6.out.1,H6.out.2⟩
end Go.Proofs.YtahbajmkhjngiaaGreatDoor
