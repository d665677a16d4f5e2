/-
  Sizes of a program of one statement that sets a value: ofStmts, ofProcs; isTwice at one procedure.
  Sizes of a program of one statement that sets a value: ofProcs.
  isTwice at a program of one procedure.
-/
import Derived.Test.YtmcajbhljbbglaaGreatDoorSs19
import Derived.Lib.MapLaws
import Derived.Maps.Own
set_option linter.all false
set_option linter.unusedVariables false
set_option linter.unusedSimpArgs false
set_option linter.unnecessarySimpa false
set_option linter.constructorNameAsVariable false
set_option linter.deprecated false

namespace Go.Proofs.YtmcajbhljbbglaaGreatDoor
open Go.RowKit

/-- what SetRow says, opened -/
theorem SetRow.open {B : Nat} {w : World} {bv : Value} {t x : Ex} (h : SetRow B w bv t x) : ∃ G cap la lc, bv = .slice (some ⟨G, 0, none⟩) 1 cap ∧ B ≤ G ∧ RepL (since B) w (.slice la 2 lc) (.two t x) ∧ ∀ i u, (stC 0 (.slice la 2 lc))[i]? = some u → w.cell? ⟨G, i, none⟩ = some u := by
  obtain ⟨la, lc, ho, hl⟩ := h
  rcases id ho.2 with h | ⟨G, cap, cur, rfl, hb, _⟩
  · exact absurd h.2 (by decide)
  · refine ⟨G, cap, la, lc, rfl, hb, hl, fun j u hj => ?_⟩
    have h1 := ho.cells (g := G) rfl j u hj
    have e : (⟨G, 0, none⟩ : Addr).add j = ⟨G, j, none⟩ := by unfold Addr.add; split <;> simp_all
    rw [e] at h1
    exact h1

structure Acc1 (w : World) (n m : Int) (wr : World) : Prop where
  res : Blk wr w.heap.size [.int .i64 0, .int .i64 0] 58
  acc : Blk wr (w.heap.size + 1) [.int .i64 n, .int .i64 m] 58
  g : w.grownBy wr none
theorem Acc1.start (w : World) : Acc1 w 0 0 ((w.alloc (.cells #[.int .i64 0, .int .i64 0] 58 (0, 0))).alloc (.cells #[.int .i64 0, .int .i64 0] 58 (0, 0))) :=
  ⟨(Blk.new w [.int .i64 0, .int .i64 0] _).alloc _, (Blk.new _ [.int .i64 0, .int .i64 0] _).of_eq (by simp) rfl, gb_alloc (World.grownBy_alloc w _ none) _⟩

set_option maxRecDepth 40000 in
set_option maxHeartbeats 2000000 in
theorem ofStmts_set {B : Nat} {w : World} {bv : Value} {t x : Ex} (h : SetRow B w bv t x) (hn : (Fo.two t x).nodes ≤ 1000000) :
    Calls Tryz.prog 69 #[bv] w fun e w' => e = .returned (szV ((1 + (Fo.two t x).nodes : Nat) : Int) ((1 + (Fo.two t x).levels : Nat) : Int)) ∧ w.grownBy w' none := by
  obtain ⟨G, cap, la, lc, rfl, hB, hl, hat⟩ := h.open
  have hll := (Fo.two t x).len_nodes
  have HS := Lib.hid (fun (W : World) (g : w.grownBy W none) => ofStmt_set (la := la) (lc := lc) (f := .two t x) rfl hn (hl.gb g (by simp)))
  have HI := Lib.hid (fun (W : World) => sizeBeside_any 0 0 (1 + (Fo.two t x).nodes) (1 + (Fo.two t x).levels) (by omega) (by omega) (by omega) W)
  have HZ := Lib.hid hat
  clear h hat hl hB
  generalize (Fo.two t x).nodes = NN at *
  generalize (Fo.two t x).levels = LL at *
  simp only [Nat.zero_add, Nat.zero_max] at HI
  have HA := Lib.hid (Acc1.start w)
  go_enter Tryz.func69, Tryz.ntmps69
  go_wp2_with fail
  go_loopg [8] 1 (fun g v8 wr => ∃ n m : Int, Acc1 w n m wr ∧ ((g = 1 ∧ v8 = .int .i64 0 ∧ n = 0 ∧ m = 0) ∨ (g = 0 ∧ v8 = .int .i64 1 ∧ n = ((1 + NN : Nat) : Int) ∧ m = ((1 + LL : Nat) : Int))))
  case atStart => exact ⟨0, 0, HA.out, .inl ⟨rfl, rfl, rfl, rfl⟩⟩
  case round =>
    obtain ⟨n, m, hA, hq | hq⟩ := hrel
    · obtain ⟨rfl, rfl, rfl, rfl⟩ := hq
      have z0 := gb_cellN hA.g (HZ.out 0 _ rfl)
      have z1 := gb_cellN hA.g (HZ.out 1 _ rfl)
      have z2 := gb_cellN hA.g (HZ.out 2 _ rfl)
      have z3 := gb_cellN hA.g (HZ.out 3 _ rfl)
      have z4 := gb_cellN hA.g (HZ.out 4 _ rfl)
      have z5 := gb_cellN hA.g (HZ.out 5 _ rfl)
      have z6 := gb_cellN hA.g (HZ.out 6 _ rfl)
      have z7 := gb_cellN hA.g (HZ.out 7 _ rfl)
      have z8 := gb_cellN hA.g (HZ.out 8 _ rfl)
      have z9 := gb_cellN hA.g (HZ.out 9 _ rfl)
      have hgl := World.block_lt_of_cell? wr _ z0
      have a0 := hA.acc.cell 0
      have a1 := hA.acc.cell 1
      have af := fun k => hA.acc.frozen k
      have al := hA.acc.lt
      simp only [List.getElem?_cons_zero, List.getElem?_cons_succ] at a0 a1
      have hgw := hA.g
      have HL := Lib.hid (fun (W : World) (g : wr.grownBy W none) => HS.out W (gb_trans hgw g))
      have HG := Lib.hid hA
      have hy := Blk.new wr (stC 0 (.slice la 2 lc)) 50
      have hac := HG.out.acc.alloc (.cells (stC 0 (.slice la 2 lc)).toArray 50 (0, 0))
      have HY := Lib.hid (And.intro hy hac)
      clear hy hac hA hgw
      have hws := HG.out.g.size
      go_wp2_with fail
      go_region_with (first
        | (go_at_call 100; refine (HL.out _ ?gg).mono ?_; (case gg => exact (by repeat (first | (with_reducible exact gb_refl _ _) | (with_reducible assumption) | (with_reducible exact gb_none (by assumption)) | (with_reducible refine gb_alloc ?_ _) | (with_reducible refine gb_drew ?_) | (with_reducible refine gb_drewN ?_ _) | ((with_reducible refine gb_set ?_ _ _ ?h2); case h2 => first | exact .inl rfl | exact .inr (Nat.le_refl _) | exact .inr (by simp <;> omega)) | (with_reducible refine gb_sub ?_ (by assumption)) | (with_reducible refine gb_trans ?_ (by assumption))))); rintro e w5 ⟨rfl, g5⟩; (have y5 := (HY.out.1.drewN 1).gb g5 (by simp)); (have ac5 := (HY.out.2.drewN 1).gb g5 (by simp)); have b_0 := y5.cell 0; have b_1 := y5.cell 1; have b_2 := y5.cell 2; have b_3 := y5.cell 3; have b_4 := y5.cell 4; have b_5 := y5.cell 5; have b_6 := y5.cell 6; have b_7 := y5.cell 7; have b_8 := y5.cell 8; have b_9 := y5.cell 9; simp only [List.getElem?_cons_zero, List.getElem?_cons_succ] at b_0 b_1 b_2 b_3 b_4 b_5 b_6 b_7 b_8 b_9; have b_f := fun i => y5.frozen i; (have d0 := ac5.cell 0); (have d1 := ac5.cell 1); (have df := fun k => ac5.frozen k); (have dl := ac5.lt); (simp only [List.getElem?_cons_zero, List.getElem?_cons_succ] at d0 d1))
        | (go_at_call 68; refine (HI.out _).mono ?_; rintro e w6 ⟨rfl, g6⟩; (have ac6 := ac5.gb g6 (by simp)); (have m0 := ac6.cell 0); (have m1 := ac6.cell 1); (have mf := fun k => ac6.frozen k); (have ml := ac6.lt); (simp only [List.getElem?_cons_zero, List.getElem?_cons_succ] at m0 m1)))
      all_goals
        have hre := ((((HG.out.res.alloc (.cells (stC 0 (.slice la 2 lc)).toArray 50 (0, 0))).drewN 1).gb g5 (by simp)).gb g6 (by simp))
        have gg := gb_sub (gb_sub (gb_drew (gb_alloc HG.out.g (.cells (stC 0 (.slice la 2 lc)).toArray 50 (0, 0)))) g5) g6
        have HX := Lib.hid (And.intro ac6 (And.intro hre gg))
        clear hre gg
        go_wp2
        go_roundg 0
        case measure => omega
        case rel => exact ⟨_, _, ⟨(HX.out.2.1.set_other _ _ (by simp)).set_other _ _ (by simp), HX.out.1.set2 _ _, gb_set (gb_set HX.out.2.2 _ _ (.inr (by simp))) _ _ (.inr (by simp))⟩, .inr ⟨rfl, rfl, rfl, rfl⟩⟩
    · obtain ⟨rfl, rfl, rfl, rfl⟩ := hq
      have HG := Lib.hid hA
      have a0 := hA.acc.cell 0
      have a1 := hA.acc.cell 1
      have r0 := hA.res.cell 0
      have r1 := hA.res.cell 1
      have rf := fun k => hA.res.frozen k
      have rl := hA.res.lt
      simp only [List.getElem?_cons_zero, List.getElem?_cons_succ] at a0 a1 r0 r1
      clear hA
      go_wp2
      refine bodyPost_ret (results_sz rfl _ (HG.out.res.set2 _ _) rfl) rfl ⟨rfl, ?_⟩
      have g := HG.out.g
      exact (by repeat (first | (with_reducible exact gb_refl _ _) | (with_reducible assumption) | (with_reducible exact gb_none (by assumption)) | (with_reducible refine gb_alloc ?_ _) | (with_reducible refine gb_drew ?_) | (with_reducible refine gb_drewN ?_ _) | ((with_reducible refine gb_set ?_ _ _ ?h2); case h2 => first | exact .inl rfl | exact .inr (Nat.le_refl _) | exact .inr (by simp <;> omega)) | (with_reducible refine gb_sub ?_ (by assumption)) | (with_reducible refine gb_trans ?_ (by assumption))))

end Go.Proofs.YtmcajbhljbbglaaGreatDoor

namespace Go.Proofs.YtmcajbhljbbglaaGreatDoor
open Go.RowKit

set_option maxRecDepth 40000 in
set_option maxHeartbeats 2000000 in
theorem ofProcs_set {B : Nat} {w : World} {v : Value} {t x : Ex} (h : SetProg B w v t x) (hn : (Fo.two t x).nodes ≤ 1000000) :
    Calls Tryz.prog 36 #[v] w fun e w' => e = .returned (szV ((1 + (Fo.two t x).nodes : Nat) : Int) ((1 + (Fo.two t x).levels : Nat) : Int)) ∧ w.grownBy w' none := by
  obtain ⟨kP, bv, rfl, hB, hblk, hrow⟩ := h
  obtain ⟨G, cap, la, lc, e, _⟩ := hrow.open
  subst e
  have hll := (Fo.two t x).len_nodes
  have HS := Lib.hid (fun (W : World) (g : w.grownBy W none) => ofStmts_set (hrow.gb g (by simp)) hn)
  have HI := Lib.hid (fun (W : World) => sizeBeside_any 0 0 (1 + (Fo.two t x).nodes) (1 + (Fo.two t x).levels) (by omega) (by omega) (by omega) W)
  have HZ := Lib.hid hblk
  clear hblk hrow hB
  generalize (Fo.two t x).nodes = NN at *
  generalize (Fo.two t x).levels = LL at *
  simp only [Nat.zero_add, Nat.zero_max] at HI
  have HA := Lib.hid (Acc1.start w)
  go_enter Tryz.func36, Tryz.ntmps36
  go_wp2_with fail
  go_loopg [8] 1 (fun g v8 wr => ∃ n m : Int, Acc1 w n m wr ∧ ((g = 1 ∧ v8 = .int .i64 0 ∧ n = 0 ∧ m = 0) ∨ (g = 0 ∧ v8 = .int .i64 1 ∧ n = ((1 + NN : Nat) : Int) ∧ m = ((1 + LL : Nat) : Int))))
  case atStart => exact ⟨0, 0, HA.out, .inl ⟨rfl, rfl, rfl, rfl⟩⟩
  case round =>
    obtain ⟨n, m, hA, hq | hq⟩ := hrel
    · obtain ⟨rfl, rfl, rfl, rfl⟩ := hq
      have hbk := HZ.out.gb hA.g (by simp)
      have z0 := hbk.cell 0
      have z1 := hbk.cell 1
      have z2 := hbk.cell 2
      have z3 := hbk.cell 3
      simp only [List.getElem?_cons_zero, List.getElem?_cons_succ] at z0 z1 z2 z3
      have hgl := hbk.lt
      clear hbk
      have a0 := hA.acc.cell 0
      have a1 := hA.acc.cell 1
      have af := fun k => hA.acc.frozen k
      have al := hA.acc.lt
      simp only [List.getElem?_cons_zero, List.getElem?_cons_succ] at a0 a1
      have hgw := hA.g
      have HL := Lib.hid (fun (W : World) (g : wr.grownBy W none) => HS.out W (gb_trans hgw g))
      have HG := Lib.hid hA
      have hy := Blk.new wr [str mainL, .bool false, .slice none 0 0, .slice (some ⟨G, 0, none⟩) 1 cap] 45
      have hac := HG.out.acc.alloc (.cells #[str mainL, .bool false, .slice none 0 0, .slice (some ⟨G, 0, none⟩) 1 cap] 45 (0, 0))
      have HY := Lib.hid (And.intro hy hac)
      clear hy hac hA hgw
      have hws := HG.out.g.size
      go_wp2_with fail
      go_region_with (first
        | (go_at_call 69; refine (HL.out _ ?gg).mono ?_; (case gg => exact (by repeat (first | (with_reducible exact gb_refl _ _) | (with_reducible assumption) | (with_reducible exact gb_none (by assumption)) | (with_reducible refine gb_alloc ?_ _) | (with_reducible refine gb_drew ?_) | (with_reducible refine gb_drewN ?_ _) | ((with_reducible refine gb_set ?_ _ _ ?h2); case h2 => first | exact .inl rfl | exact .inr (Nat.le_refl _) | exact .inr (by simp <;> omega)) | (with_reducible refine gb_sub ?_ (by assumption)) | (with_reducible refine gb_trans ?_ (by assumption))))); rintro e w5 ⟨rfl, g5⟩; (have y5 := (HY.out.1.drewN 1).gb g5 (by simp)); (have ac5 := (HY.out.2.drewN 1).gb g5 (by simp)); (have b0 := y5.cell 0); (have b1 := y5.cell 1); (have b2 := y5.cell 2); (have b3 := y5.cell 3); (have d0 := ac5.cell 0); (have d1 := ac5.cell 1); (have df := fun k => ac5.frozen k); (have dl := ac5.lt); (simp only [List.getElem?_cons_zero, List.getElem?_cons_succ] at d0 d1 b0 b1 b2 b3))
        | (go_at_call 68; refine (HI.out _).mono ?_; rintro e w6 ⟨rfl, g6⟩; (have ac6 := ac5.gb g6 (by simp)); (have m0 := ac6.cell 0); (have m1 := ac6.cell 1); (have mf := fun k => ac6.frozen k); (have ml := ac6.lt); (simp only [List.getElem?_cons_zero, List.getElem?_cons_succ] at m0 m1)))
      all_goals
        have hre := ((((HG.out.res.alloc (.cells #[str mainL, .bool false, .slice none 0 0, .slice (some ⟨G, 0, none⟩) 1 cap] 45 (0, 0))).drewN 1).gb g5 (by simp)).gb g6 (by simp))
        have gg := gb_sub (gb_sub (gb_drew (gb_alloc HG.out.g (.cells #[str mainL, .bool false, .slice none 0 0, .slice (some ⟨G, 0, none⟩) 1 cap] 45 (0, 0)))) g5) g6
        have HX := Lib.hid (And.intro ac6 (And.intro hre gg))
        clear hre gg
        go_wp2
        go_roundg 0
        case measure => omega
        case rel => exact ⟨_, _, ⟨(HX.out.2.1.set_other _ _ (by simp)).set_other _ _ (by simp), HX.out.1.set2 _ _, gb_set (gb_set HX.out.2.2 _ _ (.inr (by simp))) _ _ (.inr (by simp))⟩, .inr ⟨rfl, rfl, rfl, rfl⟩⟩
    · obtain ⟨rfl, rfl, rfl, rfl⟩ := hq
      have HG := Lib.hid hA
      have a0 := hA.acc.cell 0
      have a1 := hA.acc.cell 1
      have r0 := hA.res.cell 0
      have r1 := hA.res.cell 1
      have rf := fun k => hA.res.frozen k
      have rl := hA.res.lt
      simp only [List.getElem?_cons_zero, List.getElem?_cons_succ] at a0 a1 r0 r1
      clear hA
      go_wp2
      refine bodyPost_ret (results_sz rfl _ (HG.out.res.set2 _ _) rfl) rfl ⟨rfl, ?_⟩
      have g := HG.out.g
      exact (by repeat (first | (with_reducible exact gb_refl _ _) | (with_reducible assumption) | (with_reducible exact gb_none (by assumption)) | (with_reducible refine gb_alloc ?_ _) | (with_reducible refine gb_drew ?_) | (with_reducible refine gb_drewN ?_ _) | ((with_reducible refine gb_set ?_ _ _ ?h2); case h2 => first | exact .inl rfl | exact .inr (Nat.le_refl _) | exact .inr (by simp <;> omega)) | (with_reducible refine gb_sub ?_ (by assumption)) | (with_reducible refine gb_trans ?_ (by assumption))))

end Go.Proofs.YtmcajbhljbbglaaGreatDoor

namespace Go.Proofs.YtmcajbhljbbglaaGreatDoor
open Go.RowKit Go.Maps Go.WideMaps Go.ChangeMaps Go.MapKept

theorem lawS : Keyed Tryz.prog 9 := string_keyed Tryz.underlying9
theorem zeroB (w : World) : (zeroValue 4).run Tryz.prog w = .ok (.bool false) w := by kernel_rfl
theorem look_empty {w : World} {b : Nat} {s : Bs} {R : Value → Option (DataW Unit × List MemPlace)} (hs : s.length ≤ maxLen) (h : w.ownsMap Tryz.prog 9 R b 0 (.map [])) :
    (Instr.lookup 100 (.map (some b)) (str s) false).run Tryz.prog w = .ok (.bool false) w := by
  obtain ⟨es, clock, hb, F, hn, hD⟩ := h
  have he : es = #[] := Array.eq_empty_of_size_eq_zero (by omega)
  subst he
  rcases Maps.fit_look false lawS Tryz.underlying100 (zeroB w) hb F (keyOf_string_mk (s := ⟨s.toArray⟩) Tryz.underlying9 hs) with ⟨h, _, _⟩ | ⟨e0, y, _, _, _, _, hat, _⟩
  · exact h
  · have := hat .nil
    have h2 := hat (.lit (.bool true))
    rw [← this] at h2
    cases h2

set_option maxRecDepth 100000 in
set_option maxHeartbeats 1000000 in
theorem isTwice_set {B : Nat} {w : World} {v : Value} {t x : Ex} (h : SetProg B w v t x) :
    Calls Tryz.prog 35 #[v] w fun e w' => e = .returned (.bool false) ∧ w.grownBy w' none := by
  obtain ⟨kP, bv, rfl, hB, hblk, hrow⟩ := h
  obtain ⟨G, cap, la, lc, e, _⟩ := hrow.open
  subst e
  have hmm := @run_makeMap Tryz.prog
  have HB := Lib.hid hblk
  clear hblk hrow hB
  go_enter Tryz.func35, Tryz.ntmps35
  go_wp2_with fail
  go_loopg [9] 1 (fun g v9 wr => (g = 1 ∧ v9 = .int .i64 0 ∧ wr = w.alloc (.map #[] 0)) ∨ (g = 0 ∧ v9 = .int .i64 1 ∧ w.grownBy wr none))
  case atStart => exact .inl ⟨rfl, rfl, rfl⟩
  case round =>
    rcases hrel with ⟨rfl, rfl, rfl⟩ | ⟨rfl, rfl, hg⟩
    · have g0 := World.grownBy_alloc w (.map #[] 0) none
      have hbk := HB.out.gb g0 (by simp)
      have z0 := hbk.cell 0
      have z1 := hbk.cell 1
      have z2 := hbk.cell 2
      have z3 := hbk.cell 3
      simp only [List.getElem?_cons_zero, List.getElem?_cons_succ] at z0 z1 z2 z3
      have hgl := hbk.lt
      have HM := Lib.hid (World.ownsMap_made (H := Unit) w Tryz.prog 9 (plainElem Tryz.prog 4))
      have hlk := fun (W : World) (h : W.ownsMap Tryz.prog 9 (plainElem (H := Unit) Tryz.prog 4) w.heap.size 0 (.map [])) => look_empty (s := mainL) (by decide) h
      have hl1 := hlk _ (HM.out.alloc (.cells #[str mainL, .bool false, .slice none 0 0, .slice (some ⟨G, 0, none⟩) 1 cap] 45 (0, 0)))
      clear hbk hlk
      have hkey : keyOf Tryz.prog 9 (str mainL) = some _ := keyOf_string_mk (s := ⟨mainL.toArray⟩) Tryz.underlying9 (by decide)
      go_wp2_with (at_mapUpdate; refine wpList_mapUpdate_own _ rfl _ _ _ 100 rfl 9 4 lawS Tryz.underlying100 (plainElem (H := Unit) Tryz.prog 4) w.heap.size 0 _ rfl (HM.out.alloc _) (by unfold maxLen; omega) _ _ _ rfl rfl hkey _ [] (plainElem_bool Tryz.underlying4 true) ?_; intro w1 hown1 hgrow1)
      have gw : w.grownBy w1 none := gb_sub' (gb_alloc (World.grownBy_alloc w _ none) _) hgrow1 (.inr (Nat.le_refl _))
      clear hown1 hgrow1
      go_roundg 0
      case measure => omega
      case rel => exact .inr ⟨rfl, rfl, gw⟩
    · have HG := Lib.hid hg
      clear hg
      go_wp2
      go_ret
      exact ⟨rfl, HG.out⟩

end Go.Proofs.YtmcajbhljbbglaaGreatDoor
