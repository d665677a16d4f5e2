/-
  The empty program has code of one unit, which is valid.
-/
import Derived.Test.YtahbajmkhjngiaaGreatDoorSx37
set_option linter.all false
set_option maxRecDepth 100000
set_option maxHeartbeats 8000000
namespace Go.Proofs.YtahbajmkhjngiaaGreatDoor
open Go.Proofs.Tryz
open Go.RowKit Go.Maps Go.WideMaps Go.ChangeMaps Go.MapKept
theorem CZ{w:World}{v:Value}{ok:Nat→Prop}(h:VU ok w v [knU]):
 Calls Tryz.prog 18 #[v] w fun e w'=>e= .returned (.int .i64 0)∧w.grownBy w' none:=by
 have hmm:=@run_makeMap Tryz.prog;have HV0:=D h;obtain⟨g,o,cap,ra,rc,ca,cc,rfl,hgl,c0,c1,c2,hr,hc⟩:=Bd h;have HC:=D (I c0 (I c1 (I c2 (I hr hc))));clear h c0 c1 c2 hr hc;go_enter func18,ntmps18;go_wp2_with fail;refine(Bk HV0.out (by decide)).mono ?_;rintro e w1 ⟨rfl,g1⟩;have hsz:szU [knU]=1:=by decide
 rw[hsz];have H1:=D g1;have g0:=World.grownBy_alloc w1 (.map #[] 0) none;have gW:=M g1 g0;have d0:=J gW HC.out.1;have d1:=J gW HC.out.2.1;have hgl1:g<w1.heap.size:=Nat.lt_of_lt_of_le hgl g1.size;have HM:=D (World.ownsMap_made (H:=Unit) w1 Tryz.prog 9 (plainElem Tryz.prog 4));have gI:=World.grownBy_alloc (w1.alloc (.map #[] 0)) (.cells [.int .i64 0,.int .i64 0].toArray 3 (0,0)) none;have HI:=D (I ((HC.out.2.2.2.1.gb gW (by simp)).gb gI (by simp)) (I (Bn (n:=2) (k:=1) (ok:=fun _=>True) ((Blk.new (w1.alloc (.map #[] 0)) [.int .i64 0,.int .i64 0] 3).of_eq (k':=w1.heap.size+1) (by simp) rfl) rfl (by decide) trivial) gI));clear g1 hsz g0 gW gI;go_wp2_with fail;refine(BK (l:=[0,0]) (m:=[0,0]) HI.out.1 HI.out.2.1).mono ?_;rintro e w2 ⟨rfl,g2⟩;have hdec:decide (([0,0]:List Int)=[0,0])=true:=by decide
 rw[hdec];have H2:=D (I ((HM.out.kept HI.out.2.2 (by simp)).kept g2 (by simp)) (M (M (Y H1.out _) HI.out.2.2) g2));clear g2 hdec d0 d1 HI HM;go_wp2_with fail;go_loopg [4,6,36] 1 (fun g v4 v6 v36 wr=>(g=1∧v36= .int .i64 0∧v4= .bool true∧wr.ownsMap Tryz.prog 9 (plainElem (H:=Unit) Tryz.prog 4) w1.heap.size 0 (.map [])∧w.grownBy wr none)∨(g=0∧v36= .int .i64 1∧v4= .bool true∧w.grownBy wr none))
 case atStart=>exact .inl ⟨rfl,rfl,rfl,H2.out.1,H2.out.2⟩
 case round=>
  rcases hrel with⟨rfl,rfl,rfl,hM,hg⟩| ⟨rfl,rfl,rfl,hg⟩
  ·have e0:=J hg HC.out.1;have e1:=J hg HC.out.2.1;have e2:=J hg HC.out.2.2.1;have gA:=World.grownBy_alloc wr (.cells [str mainB,.slice ra 2 rc,.slice ca 1 cc].toArray 33 (0,0)) none;have HX:=D (I (Blk.new wr [str mainB,.slice ra 2 rc,.slice ca 1 cc] 33) (I (hM.kept gA (by simp)) (M hg gA)));clear hM hg gA H2;go_wp2_with fail;refine(BE (HC.out.2.2.2.2.gb HX.out.2.2 (by simp))).mono ?_;rintro e w3 ⟨rfl,g3⟩;have hb:=HX.out.1.gb g3 (by simp);have z0:=hb.cell' 0 rfl;have hM3:=HX.out.2.1.kept g3 (by simp);have hl:=BM (s:=mainB) (by decide) hM3;have H3:=D (I hM3 (M HX.out.2.2 g3));have hms:w1.heap.size<wr.heap.size+1∨True:= .inr trivial;clear hb hM3 g3 HX hms e0 e1 e2;have hkey:keyOf Tryz.prog 9 (str mainB)=some _:=keyOf_string_mk (s:=⟨mainB.toArray⟩) underlying9 (by decide);go_wp2_with (at_mapUpdate;refine wpList_mapUpdate_own _ rfl _ _ _ 57 rfl 9 4 AN underlying57 (plainElem (H:=Unit) Tryz.prog 4) w1.heap.size 0 _ rfl H3.out.1 (by unfold maxLen;omega) _ _ _ rfl rfl hkey _ [] (plainElem_bool underlying4 true) ?_;intro w4 hown4 hgrow4);have gwx:w.grownBy w4 none:=AD H3.out.2 hgrow4 (.inr H1.out.size);clear hown4 hgrow4;go_roundg 0
   case measure=>omega
   case rel=>exact .inr ⟨rfl,rfl,rfl,gwx⟩
  ·have HG:=D (I (HV0.out.gb hg (by simp)) hg);clear hg H2;go_wp2_with fail;refine(Dm HG.out.1 (CP _)).mono ?_;rintro e w5 ⟨rfl,g5⟩;have H5:=D (M HG.out.2 g5);clear g5;go_wp2;go_ret;exact⟨rfl,H5.out⟩
theorem Bf(w:World):Calls Tryz.prog 5 #[] w fun e w'=>e= .returned (.bool true)∧w.grownBy w' none:=by
 have HB:=D (I (Blk.new w mainC 41) (World.grownBy_alloc w (.cells mainC.toArray 41 (0,0)) none));go_enter func5,ntmps5;go_wp2_with fail;refine(Ck HB.out.1).mono ?_;rintro e w1 ⟨v,rfl,hv,g1⟩;have H1:=D (I hv (M HB.out.2 g1));obtain⟨a,cap,rfl,_⟩:=hv.open;clear hv g1;go_wp2_with fail;refine(CZ H1.out.1).mono ?_;rintro e w2 ⟨rfl,g2⟩;have H2:=D (M H1.out.2 g2);clear g2;go_wp2;go_ret;exact⟨rfl,H2.out⟩
end Go.Proofs.YtahbajmkhjngiaaGreatDoor
