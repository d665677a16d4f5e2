/-
  TreeReads: the walk.
-/
import Derived.Test.YtmcajbhljbbglaaGreatDoorSr15
import Derived.Test.YtmcajbhljbbglaaGreatDoorSs23
set_option linter.all false
set_option linter.unusedVariables false
set_option linter.unusedSimpArgs false
set_option linter.unnecessarySimpa false
set_option linter.constructorNameAsVariable false
set_option linter.deprecated false

namespace Go.Proofs.YtmcajbhljbbglaaGreatDoor
open Go.RowKit

/-- what both readings give: an expression, a place or count, a code -/
def peX (s : Bs) : Ex × Int × Int := match peM s with
  | .ok x n => (x, n, 0)
  | .no p c => (zeroEx, p, c)
theorem PePost.val {w w' : World} {s : Bs} {e : Ending} (h : PePost w s e w') : w.grownBy w' none ∧ ∃ v, e = .returned (.tuple #[v, .int .i64 (peX s).2.1, .int .i64 (peX s).2.2]) ∧ VE (since w.heap.size) w' v (peX s).1 := by
  obtain ⟨g, h⟩ := h
  refine ⟨g, ?_⟩
  unfold peX
  cases hq : peM s with
  | ok x n => rw [hq] at h; exact h
  | no p c =>
    rw [hq] at h
    exact ⟨exV0, h, none, 0, none, 0, rfl, Cells.nil _ _ _, RepL.nil _ _⟩

set_option maxHeartbeats 400000 in
theorem over_any (s : Bs) (w : World) : Calls Tryz.prog 7 #[str s] w fun e w' => e = .returned (.bool (decide (16000 < s.length))) ∧ w.grownBy w' none := by
  go_enter Tryz.func7, Tryz.ntmps7
  go_wp2
  go_ret
  exact ⟨by show Ending.returned (Value.bool (decide ((16000 : Int) < (s.length : Int)))) = _; congr 2; rw [decide_eq_decide]; omega, (by repeat (first | (with_reducible exact gb_refl _ _) | (with_reducible assumption) | (with_reducible exact gb_none (by assumption)) | (with_reducible refine gb_alloc ?_ _) | (with_reducible refine gb_drew ?_) | (with_reducible refine gb_drewN ?_ _) | ((with_reducible refine gb_set ?_ _ _ ?h2); case h2 => first | exact .inl rfl | exact .inr (Nat.le_refl _) | exact .inr (by simp <;> omega)) | (with_reducible refine gb_sub ?_ (by assumption)) | (with_reducible refine gb_trans ?_ (by assumption))))⟩

set_option maxRecDepth 40000 in
set_option maxHeartbeats 4000000 in
theorem treeReads_walk {w : World} (ht : Tabs w.heap.size w) (s : Bs) :
    Calls Tryz.prog 3 #[str s] w fun e w' => e = .returned (.bool true) ∧ w.grownBy w' none := by
  have HK := Lib.hid (fun (W : World) (g : w.grownBy W none) => known_any ((ht.gbN g).mono g.size))
  by_cases hs : 16000 < s.length
  · have hs1 : decide (16000 < s.length) = true := by simpa using hs
    clear ht hs
    go_enter Tryz.func3, Tryz.ntmps3
    go_wp2_with fail
    refine (over_any s _).mono ?_
    rintro e w1 ⟨rfl, g1⟩
    go_wp2_with fail
    refine (HK.out _ g1).mono ?_
    rintro e w2 ⟨rfl, g2⟩
    go_wp2
    go_ret
    exact ⟨rfl, gb_trans g1 g2⟩
  · have hs1 : decide (16000 < s.length) = false := by simpa using hs
    have HE := Lib.hid (fun (W : World) (g : w.grownBy W none) => parseExpr_any ((ht.gbN g).mono g.size) s (by omega))
    have HF := Lib.hid (fun (W : World) => refParseExpr_any W s)
    clear ht hs
    go_enter Tryz.func3, Tryz.ntmps3
    go_wp2_with fail
    refine (over_any s _).mono ?_
    rintro e w1 ⟨rfl, g1⟩
    go_wp2_with fail
    refine (HE.out _ g1).mono ?_
    rintro e w2 h2
    obtain ⟨g2, v, rfl, hv⟩ := h2.val
    clear h2
    obtain ⟨pa, pc, la, lc, rfl, rp, rl⟩ := hv
    have HV := Lib.hid (And.intro rp (And.intro rl (gb_trans g1 g2)))
    clear rp rl g1 g2 HE
    go_wp2_with fail
    refine (HF.out _).mono ?_
    rintro e w3 h3
    obtain ⟨g3, v, rfl, hv⟩ := h3.val
    clear h3
    obtain ⟨pb, pd, lb, ld, rfl, rq, rm⟩ := hv
    generalize (peX s).1 = x at *
    generalize (peX s).2.1 = n at *
    generalize (peX s).2.2 = c at *
    have gK := World.grownBy_alloc w2 (.cells (hdC x.h (.slice pa x.h.p.length pc) (.slice la x.kids.len lc)).toArray 29 (0, 0)) none
    have hE := (Blk.new w2 (hdC x.h (.slice pa x.h.p.length pc) (.slice la x.kids.len lc)) 29).gb g3 (by simp)
    have gM := World.grownBy_alloc w3 (.cells (hdC x.h (.slice pb x.h.p.length pd) (.slice lb x.kids.len ld)).toArray 29 (0, 0)) none
    have hF := Blk.new w3 (hdC x.h (.slice pb x.h.p.length pd) (.slice lb x.kids.len ld)) 29
    have gA := gb_trans gK (gb_trans g3 gM)
    have hE2 := hE.gb gM (by simp)
    have HS := Lib.hid (refSameExpr_any (show VE (since 0) _ _ x from ⟨pa, pc, la, lc, rfl, (HV.out.1.gb gA (by simp)).mono (fun q h _ => Nat.zero_le _), (HV.out.2.1.gb gA (by simp)).mono (fun q h _ => Nat.zero_le _)⟩)
      (show VE (since 0) _ _ x from ⟨pb, pd, lb, ld, rfl, (rq.gb gM (by simp)).mono (fun q h _ => Nat.zero_le _), (rm.gb gM (by simp)).mono (fun q h _ => Nat.zero_le _)⟩))
    have HG := Lib.hid (gb_trans HV.out.2.2 gA)
    rw [sameX_refl] at HS
    clear gK hE gM gA rq rm g3 HV HF
    have x_0 := hE2.cell 0; have x_1 := hE2.cell 1; have x_2 := hE2.cell 2; have x_3 := hE2.cell 3; have x_4 := hE2.cell 4; have x_5 := hE2.cell 5; have x_6 := hE2.cell 6; simp only [hdC, List.getElem?_cons_zero, List.getElem?_cons_succ] at x_0 x_1 x_2 x_3 x_4 x_5 x_6; have x_f := fun i => hE2.frozen i
    have y_0 := hF.cell 0; have y_1 := hF.cell 1; have y_2 := hF.cell 2; have y_3 := hF.cell 3; have y_4 := hF.cell 4; have y_5 := hF.cell 5; have y_6 := hF.cell 6; simp only [hdC, List.getElem?_cons_zero, List.getElem?_cons_succ] at y_0 y_1 y_2 y_3 y_4 y_5 y_6; have y_f := fun i => hF.frozen i
    have hn1 : (n == n) = true := by simp
    have hc1 : (c == c) = true := by simp
    clear hE2 hF
    go_wp2_with fail
    refine HS.out.mono ?_
    rintro e w4 ⟨rfl, g4⟩
    have gw := gb_trans HG.out g4
    go_wp2_with fail
    refine (HK.out _ gw).mono ?_
    rintro e w5 ⟨rfl, g5⟩
    go_wp2
    go_ret
    exact ⟨rfl, gb_trans gw g5⟩

end Go.Proofs.YtmcajbhljbbglaaGreatDoor
