/-
  The empty program: Compile.
-/
import Derived.Test.YtahbajmkhjngiaaGreatDoorSx33
set_option linter.all false
set_option maxRecDepth 100000
set_option maxHeartbeats 8000000
namespace Go.Proofs.YtahbajmkhjngiaaGreatDoor
open Go.Proofs.Tryz
open Go.RowKit Go.Maps Go.WideMaps Go.ChangeMaps Go.MapKept
theorem Ck{w:World}{G c:Nat}(h:Blk w G mainC 41):
 Calls Tryz.prog 17 #[.slice (some ⟨G,0,none⟩) 1 c] w fun e w'=>∃v,e= .returned (.tuple #[v,.int .i64 0])∧VU (Al w.heap.size) w' v [knU]∧w.grownBy w' none:=by
 have hmm:=@run_makeMap Tryz.prog;obtain⟨n0,hn0,hv0,hv1,hv2⟩:=info_parts AS;have HU:=D (I hn0 (I hv0 (I hv1 hv2)));have HB:=D h;clear h hn0 hv0 hv1 hv2;go_enter func17,ntmps17;go_wp2_with fail;refine(Da HB.out).mono ?_;rintro e w1 ⟨rfl,g1⟩;have H1:=D (I (HB.out.gb g1 (by simp)) g1);clear g1;go_wp2_with fail;go_loopg [7,19] 1 (fun g v7 v19 wr=>(g=1∧v19= .int .i64 0∧wr=w1.alloc (.map #[] 0))∨(g=0∧v19= .int .i64 1∧w1.grownBy wr none))
 case atStart=>exact .inl ⟨rfl,rfl,rfl⟩
 case round=>
  rcases hrel with⟨rfl,rfl,rfl⟩| ⟨rfl,rfl,hg⟩
  ·have g0:=World.grownBy_alloc w1 (.map #[] 0) none;have hbk:=H1.out.1.gb g0 (by simp);have z0:=hbk.cell 0;have z1:=hbk.cell 1;have z2:=hbk.cell 2;have z3:=hbk.cell 3;simp only[List.getElem?_cons_zero,List.getElem?_cons_succ]at z0 z1 z2 z3;have hgl:=hbk.lt;have HM:=D (World.ownsMap_made (H:=Unit) w1 Tryz.prog 9 (plainElem Tryz.prog 3));clear hbk;have hkey:keyOf Tryz.prog 9 (str mainB)=some _:=keyOf_string_mk (s:=⟨mainB.toArray⟩) underlying9 (by decide);go_wp2_with (at_mapUpdate;refine wpList_mapUpdate_own _ rfl _ _ _ 53 rfl 9 3 AN underlying53 (plainElem (H:=Unit) Tryz.prog 3) w1.heap.size 0 _ rfl (HM.out.alloc _) (by unfold maxLen;omega) _ _ _ rfl rfl hkey _ [] (plainElem_int underlying3 (by decide)) ?_;intro w2 hown1 hgrow1);have gwx:w1.grownBy w2 none:=AD (Y (World.grownBy_alloc w1 _ none) _) hgrow1 (.inr (Nat.le_refl _));clear hown1 hgrow1;go_roundg 0
   case measure=>omega
   case rel=>exact .inr ⟨rfl,rfl,gwx⟩
  ·have H2:=D (I (H1.out.1.gb hg (by simp)) (M H1.out.2 hg));clear hg;go_wp2_with fail;go_loopg [8,10,32] 1 (fun g v8 v10 v32 wr=>(g=1∧v32= .int .i64 0∧v8= .slice none 0 0∧Blk wr G mainC 41∧w.grownBy wr none)∨(g=0∧v32= .int .i64 1∧VU (Al w.heap.size) wr v8 [knU]∧w.grownBy wr none))
   case atStart=>exact .inl ⟨rfl,rfl,rfl,H2.out.1,H2.out.2⟩
   case round=>
    rcases hrel with⟨rfl,rfl,rfl,hb,hg⟩| ⟨rfl,rfl,hv,hg⟩
    ·have z0:=hb.cell 0;have z1:=hb.cell 1;have z2:=hb.cell 2;have z3:=hb.cell 3;simp only[List.getElem?_cons_zero,List.getElem?_cons_succ]at z0 z1 z2 z3;have hgl:=hb.lt;have gA:=M hg (World.grownBy_alloc wr (.cells mainC.toArray 41 (0,0)) none);have hgs:=hg.size;have HX:=D gA;clear hb hg gA H2;go_wp2_with fail;refine(D2 _ _).mono ?_;rintro e w5 ⟨r,q,cp,rfl,hr,hc,g5⟩;have hs5:w.heap.size≤w5.heap.size:=(M HX.out g5).size;have gA5:=World.grownBy_alloc w5 (.cells [str mainB,.slice (some ⟨r,0,none⟩) 2 2,.slice (some ⟨q,0,none⟩) 1 cp].toArray 33 (0,0)) none;have HR:=D (I (hr.gb gA5 (by simp)) (I (hc.gb gA5 (by simp)) (M (M HX.out g5) gA5)));clear hr hc g5 gA5;go_wp2_with (at_builtin;go_loud(refine wpList_append_lies _ rfl _ _ 22 rfl w.heap.size 33 n0 (.agg #[str [],.slice none 0 0,.slice none 0 0]) 3 64 underlying22 HU.out.1 HU.out.2.1 HU.out.2.2.1 HU.out.2.2.2 rfl (by decide) (.slice none 0 0) 0 [] rfl (At _ _ _ _) ⟨w5.heap.size,0,none⟩ 1 1 [str mainB,.slice (some ⟨r,0,none⟩) 2 2,.slice (some ⟨q,0,none⟩) 1 cp] rfl rfl (Az _ _ _) (by simp[Value.oneCell']) (by decide) (by decide) (by decide) (by simp;omega) _ rfl ?_;intro g6 cap6 w6 hown hgrow hat6 hlt6;(have HE:=D (I hown hgrow));clear hown hgrow hat6));go_roundg 0
     case measure=>omega
     case rel=>
      refine .inr ⟨rfl,rfl,⟨[str mainB,.slice (some ⟨r,0,none⟩) 2 2,.slice (some ⟨q,0,none⟩) 1 cp],?_,?_⟩,?_⟩
      ·exact Av (by simpa using HE.out.1)
      ·refine RepU.one (u:=knU) ?_ ?_
       ·exact(HR.out.1.gb HE.out.2 (by simp[Value.ownBlock])).mono (fun k hk _=>by have h1:_≤k:=hk;simp at h1;show w.heap.size≤k;omega)
       ·exact(HR.out.2.1.gb HE.out.2 (by simp[Value.ownBlock])).mono (fun k hk _=>by have h1:_≤k:=hk;simp at h1;show w.heap.size≤k;omega)
      ·exact Ad HR.out.2.2 HE.out.2 (by simp[Value.ownBlock])
    ·have HV:=D (I hv hg);clear hv hg H2;go_wp2_with fail;refine(Bk HV.out.1 (by decide)).mono ?_;rintro e w3 ⟨rfl,g3⟩;have H3:=D (I (HV.out.1.gb g3 (by simp)) (M HV.out.2 g3));have hsz:szU [knU]=1:=by decide
     rw[hsz];clear g3 hsz;go_wp2_with fail;refine(Dl H3.out.1 (C7 _)).mono ?_;rintro e w4 ⟨rfl,g4⟩;have H4:=D (I (H3.out.1.gb g4 (by simp)) (M H3.out.2 g4));clear g4;go_wp2;exact bodyPost_ret (v:= .tuple #[u8,.int .i64 0]) (by simp[results,results17,go_sem]) rfl ⟨_,rfl,H4.out.1,H4.out.2⟩
end Go.Proofs.YtahbajmkhjngiaaGreatDoor
