/-
  The empty program: its size, its names, its rows of statements, which procedures it has.
-/
import Derived.Test.YtahbajmkhjngiaaGreatDoorSx07
import Derived.Maps.Own
set_option linter.all false
set_option maxRecDepth 100000
set_option maxHeartbeats 8000000
namespace Go.Proofs.YtahbajmkhjngiaaGreatDoor
open Go.Proofs.Tryz
open Go.RowKit Go.Maps Go.WideMaps Go.ChangeMaps Go.MapKept
abbrev szK(n m:Int):Value:= .agg #[.int .i64 n,.int .i64 m]
abbrev mainB:Bs:=[77,65,73,78]
abbrev mainC:List Value:=[str mainB,.bool false,.slice none 0 0,.slice none 0 0]
theorem BS(w:World):
 Calls Tryz.prog 59 #[szK 0 0,szK 0 0] w fun e w'=>e= .returned (szK 0 0)∧w.grownBy w' none:=by
 go_enter func59,ntmps59;go_wp2;exact bodyPost_ret (v:=szK 0 0) (by simp[results,results59,go_sem]) rfl ⟨rfl,(by repeat(first| (with_reducible exact N _ _)| (with_reducible assumption)| (with_reducible exact AQ (by assumption))| (with_reducible refine Y ?_ _)| (with_reducible refine Ae ?_)| (with_reducible refine Af ?_ _)| ((with_reducible refine Am ?_ _ _ ?h2);case h2=>first|exact .inl rfl|exact .inr (Nat.le_refl _)|exact .inr (by simp<;>omega))| (with_reducible refine AO ?_ (by assumption))| (with_reducible refine M ?_ (by assumption))))⟩
theorem Cn(w:World):
 Calls Tryz.prog 41 #[szK 0 0] w fun e w'=>e= .returned (.bool false)∧w.grownBy w' none:=by
 go_enter func41,ntmps41;go_wp2;go_ret;exact⟨rfl,(by repeat(first| (with_reducible exact N _ _)| (with_reducible assumption)| (with_reducible exact AQ (by assumption))| (with_reducible refine Y ?_ _)| (with_reducible refine Ae ?_)| (with_reducible refine Af ?_ _)| ((with_reducible refine Am ?_ _ _ ?h2);case h2=>first|exact .inl rfl|exact .inr (Nat.le_refl _)|exact .inr (by simp<;>omega))| (with_reducible refine AO ?_ (by assumption))| (with_reducible refine M ?_ (by assumption))))⟩
theorem Ct(w:World):
 Calls Tryz.prog 60 #[.slice none 0 0] w fun e w'=>e= .returned (szK 0 0)∧w.grownBy w' none:=by
 go_enter func60,ntmps60;go_wp2_with fail;go_loopg [5,8] 0 (fun g v5 v8 wr=>g=0∧v8= .int .i64 0∧wr=(w.alloc (.cells #[.int .i64 0,.int .i64 0] 72 (0,0))).alloc (.cells #[.int .i64 0,.int .i64 0] 72 (0,0)))
 case atStart=>exact⟨rfl,rfl,rfl⟩
 case round=>
  obtain⟨rfl,rfl,rfl⟩:=hrel;go_wp2;exact bodyPost_ret (v:=szK 0 0) (by simp[results,results60,go_sem]) rfl ⟨rfl,(by repeat(first| (with_reducible exact N _ _)| (with_reducible assumption)| (with_reducible exact AQ (by assumption))| (with_reducible refine Y ?_ _)| (with_reducible refine Ae ?_)| (with_reducible refine Af ?_ _)| ((with_reducible refine Am ?_ _ _ ?h2);case h2=>first|exact .inl rfl|exact .inr (Nat.le_refl _)|exact .inr (by simp<;>omega))| (with_reducible refine AO ?_ (by assumption))| (with_reducible refine M ?_ (by assumption))))⟩
theorem AN:Keyed Tryz.prog 9:=string_keyed underlying9
theorem D3(w:World):(zeroValue 4).run Tryz.prog w= .ok (.bool false) w:=by kernel_rfl
theorem BM{w:World}{b:Nat}{s:Bs}{R:Value→Option (DataW Unit×List MemPlace)}(hs:s.length≤maxLen)(h:w.ownsMap Tryz.prog 9 R b 0 (.map [])):
 (Instr.lookup 57 (.map (some b)) (str s) false).run Tryz.prog w= .ok (.bool false) w:=by
 obtain⟨es,clock,hb,F,hn,hD⟩:=h;have he:es=#[]:=Array.eq_empty_of_size_eq_zero (by omega);subst he;rcases Maps.fit_look false AN underlying57 (D3 w) hb F (keyOf_string_mk (s:=⟨s.toArray⟩) underlying9 hs)with⟨h,_,_⟩| ⟨e0,y,_,_,_,_,hat,_⟩
 ·exact h
 ·have:=hat .nil;have h2:=hat (.lit (.bool true));rw[←this]at h2;cases h2
theorem Co{w:World}{G c:Nat}(h:Blk w G mainC 41):
 Calls Tryz.prog 43 #[.slice (some ⟨G,0,none⟩) 1 c] w fun e w'=>e= .returned (.bool false)∧w.grownBy w' none:=by
 have hmm:=@run_makeMap Tryz.prog;have HB:=D h;clear h;go_enter func43,ntmps43;go_wp2_with fail;go_loopg [5,9] 1 (fun g v5 v9 wr=>(g=1∧v9= .int .i64 0∧wr=w.alloc (.map #[] 0))∨(g=0∧v9= .int .i64 1∧w.grownBy wr none))
 case atStart=>exact .inl ⟨rfl,rfl,rfl⟩
 case round=>
  rcases hrel with⟨rfl,rfl,rfl⟩| ⟨rfl,rfl,hg⟩
  ·have g0:=World.grownBy_alloc w (.map #[] 0) none;have hbk:=HB.out.gb g0 (by simp);have z0:=hbk.cell 0;have z1:=hbk.cell 1;have z2:=hbk.cell 2;have z3:=hbk.cell 3;simp only[List.getElem?_cons_zero,List.getElem?_cons_succ]at z0 z1 z2 z3;have hgl:=hbk.lt;have HM:=D (World.ownsMap_made (H:=Unit) w Tryz.prog 9 (plainElem Tryz.prog 4));have hlk:=fun(W:World)(h:W.ownsMap Tryz.prog 9 (plainElem (H:=Unit) Tryz.prog 4) w.heap.size 0 (.map []))=>BM (s:=mainB) (by decide) h;have hl1:=hlk _ (HM.out.alloc (.cells #[str mainB,.bool false,.slice none 0 0,.slice none 0 0] 41 (0,0)));clear hbk hlk;have hkey:keyOf Tryz.prog 9 (str mainB)=some _:=keyOf_string_mk (s:=⟨mainB.toArray⟩) underlying9 (by decide);go_wp2_with (at_mapUpdate;refine wpList_mapUpdate_own _ rfl _ _ _ 57 rfl 9 4 AN underlying57 (plainElem (H:=Unit) Tryz.prog 4) w.heap.size 0 _ rfl (HM.out.alloc _) (by unfold maxLen;omega) _ _ _ rfl rfl hkey _ [] (plainElem_bool underlying4 true) ?_;intro w1 hown1 hgrow1);have gwx:w.grownBy w1 none:=AD (Y (World.grownBy_alloc w _ none) _) hgrow1 (.inr (Nat.le_refl _));clear hown1 hgrow1;go_roundg 0
   case measure=>omega
   case rel=>exact .inr ⟨rfl,rfl,gwx⟩
  ·have HG:=D hg;clear hg;go_wp2;go_ret;exact⟨rfl,HG.out⟩
theorem CO(s:Bs)(w:World)(hs:s.length≤4000000):Calls Tryz.prog 44 #[str s] w fun e w'=>e= .returned (.bool (Ay s))∧w.grownBy w' none:=by
 go_enter func44,ntmps44;go_wp2_with fail;refine(BP s w hs).mono ?_;rintro e w1 ⟨rfl,hb⟩;go_wp2;go_ret;exact⟨rfl,hb⟩
theorem C4(w:World):
 Calls Tryz.prog 45 #[.slice none 0 0] w fun e w'=>e= .returned (.bool true)∧w.grownBy w' none:=by
 have hi:Calls Tryz.prog 78 #[.slice none 0 0,.func (.func 62) #[] #[]] w fun e w'=>e= .returned (.int .i64 (-1))∧w.grownBy w' none:=by
  go_enter func78,ntmps78;go_wp2_with fail;go_loopg [5,8] 0 (fun g v5 v8 wr=>g=0∧v8= .int .i64 0∧wr=w)
  case atStart=>exact⟨rfl,rfl,rfl⟩
  case round=>
   obtain⟨rfl,rfl,rfl⟩:=hrel;go_wp2;go_ret;exact⟨rfl,(by repeat(first| (with_reducible exact N _ _)| (with_reducible assumption)| (with_reducible exact AQ (by assumption))| (with_reducible refine Y ?_ _)| (with_reducible refine Ae ?_)| (with_reducible refine Af ?_ _)| ((with_reducible refine Am ?_ _ _ ?h2);case h2=>first|exact .inl rfl|exact .inr (Nat.le_refl _)|exact .inr (by simp<;>omega))| (with_reducible refine AO ?_ (by assumption))| (with_reducible refine M ?_ (by assumption))))⟩
 have HI:=D hi;clear hi;have hc:Calls Tryz.prog 61 #[.slice none 0 0,.func (.func 62) #[] #[]] w fun e w'=>e= .returned (.bool false)∧w.grownBy w' none:=by
  go_enter func61,ntmps61;go_wp2_with fail;refine HI.out.mono ?_;rintro e w1 ⟨rfl,g1⟩;go_wp2;go_ret;exact⟨rfl,g1⟩
 have HC:=D hc;clear hc;go_enter func45,ntmps45;go_wp2_with fail;refine HC.out.mono ?_;rintro e w1 ⟨rfl,g1⟩;go_wp2;go_ret;exact⟨rfl,g1⟩
theorem CJ(w:World):
 Calls Tryz.prog 79 #[.slice none 0 0,.func (.func 64) #[] #[]] w fun e w'=>e= .returned (.int .i64 (-1))∧w.grownBy w' none:=by
 go_enter func79,ntmps79;go_wp2_with fail;go_loopg [5,8] 0 (fun g v5 v8 wr=>g=0∧v8= .int .i64 0∧wr=w)
 case atStart=>exact⟨rfl,rfl,rfl⟩
 case round=>
  obtain⟨rfl,rfl,rfl⟩:=hrel;go_wp2;go_ret;exact⟨rfl,(by repeat(first| (with_reducible exact N _ _)| (with_reducible assumption)| (with_reducible exact AQ (by assumption))| (with_reducible refine Y ?_ _)| (with_reducible refine Ae ?_)| (with_reducible refine Af ?_ _)| ((with_reducible refine Am ?_ _ _ ?h2);case h2=>first|exact .inl rfl|exact .inr (Nat.le_refl _)|exact .inr (by simp<;>omega))| (with_reducible refine AO ?_ (by assumption))| (with_reducible refine M ?_ (by assumption))))⟩
theorem C5(w:World):
 Calls Tryz.prog 46 #[.slice none 0 0] w fun e w'=>e= .returned (.bool true)∧w.grownBy w' none:=by
 have hc:Calls Tryz.prog 63 #[.slice none 0 0,.func (.func 64) #[] #[]] w fun e w'=>e= .returned (.bool false)∧w.grownBy w' none:=by
  go_enter func63,ntmps63;go_wp2_with fail;refine(CJ w).mono ?_;rintro e w1 ⟨rfl,g1⟩;go_wp2;go_ret;exact⟨rfl,g1⟩
 have HC:=D hc;clear hc;go_enter func46,ntmps46;go_wp2_with fail;refine HC.out.mono ?_;rintro e w1 ⟨rfl,g1⟩;go_wp2;go_ret;exact⟨rfl,g1⟩
end Go.Proofs.YtahbajmkhjngiaaGreatDoor
