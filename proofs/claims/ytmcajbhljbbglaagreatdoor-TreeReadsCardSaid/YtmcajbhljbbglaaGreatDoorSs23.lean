/-
  overExpr: it returns, and leaves what was there.
  known: it is true.
  TreeExprSames: the walk.
-/
import Derived.Test.YtmcajbhljbbglaaGreatDoorSs22
import Derived.Test.YtmcajbhljbbglaaGreatDoorSs21
set_option linter.all false
set_option linter.unusedVariables false
set_option linter.unusedSimpArgs false
set_option linter.unnecessarySimpa false
set_option linter.constructorNameAsVariable false
set_option linter.deprecated false

namespace Go.Proofs.YtmcajbhljbbglaaGreatDoor
open Go.RowKit

theorem over1 {w : World} {ok : Nat → Prop} {x : Ex} {pa la : Option Addr} {pc lc : Nat} (hp : Cells w (.slice pa x.h.p.length pc) 1 x.h.p.length (x.h.p.map str) ok) (hl : RepL ok w (.slice la x.kids.len lc) x.kids) (W : World) (g : w.grownBy W none) (n : Nat) (hn : n = W.heap.size) :
    Calls Tryz.prog 41 #[.slice (some ⟨n, 0, none⟩) 1 1] (W.alloc (.cells (hdC x.h (.slice pa x.h.p.length pc) (.slice la x.kids.len lc)).toArray 29 (0, 0))) (SomeN (W.alloc (.cells (hdC x.h (.slice pa x.h.p.length pc) (.slice la x.kids.len lc)).toArray 29 (0, 0)))) := by
  subst hn
  exact heavy_N ((Fo.one x).wt + 1) (.one x) (Nat.lt_succ_self _) (fun _ => True) (some ⟨W.heap.size, 0, none⟩) 1 _ (RepL.one rfl trivial ((hp.gb g (by simp)).mono (fun _ _ _ => trivial)) ((hl.gb g (by simp)).mono (fun _ _ _ => trivial)))

set_option maxRecDepth 20000 in
set_option maxHeartbeats 1000000 in
theorem overExpr_any {w : World} {ok : Nat → Prop} {v : Value} {x : Ex} (hx : VE ok w v x) : Calls Tryz.prog 15 #[v] w (SomeB w) := by
  obtain ⟨pa, pc, la, lc, rfl, hp, hl⟩ := hx
  have HR := Lib.hid (over1 hp hl (w.alloc (.cells (hdC x.h (.slice pa x.h.p.length pc) (.slice la x.kids.len lc)).toArray 29 (0, 0))) (World.grownBy_alloc _ _ _) (w.heap.size + 1) (by simp))
  clear hp hl
  go_enter Tryz.func15, Tryz.ntmps15
  go_wp2_with fail
  refine HR.out.mono ?_
  rintro e w1 ⟨n, rfl, g1⟩
  have gw : w.grownBy w1 none := gb_trans (gb_alloc (World.grownBy_alloc _ _ _) _) g1
  clear g1
  go_wp2
  go_ret
  exact ⟨_, rfl, gw⟩

end Go.Proofs.YtmcajbhljbbglaaGreatDoor

namespace Go.Proofs.YtmcajbhljbbglaaGreatDoor
open Go.RowKit

set_option maxHeartbeats 400000 in
theorem num_any (n : Int) (w : World) : Calls Tryz.prog 22 #[.int .i64 n] w fun e w' => e = .returned (.agg #[.int .i64 2, .int .i64 n, str []]) ∧ w.grownBy w' none := by
  go_enter Tryz.func22, Tryz.ntmps22
  go_wp2
  exact bodyPost_ret (v := .agg #[.int .i64 2, .int .i64 n, str []]) (by simp [results, Tryz.results22, go_sem]) rfl ⟨rfl, (by repeat (first | (with_reducible exact gb_refl _ _) | (with_reducible assumption) | (with_reducible exact gb_none (by assumption)) | (with_reducible refine gb_alloc ?_ _) | (with_reducible refine gb_drew ?_) | (with_reducible refine gb_drewN ?_ _) | ((with_reducible refine gb_set ?_ _ _ ?h2); case h2 => first | exact .inl rfl | exact .inr (Nat.le_refl _) | exact .inr (by simp <;> omega)) | (with_reducible refine gb_sub ?_ (by assumption)) | (with_reducible refine gb_trans ?_ (by assumption))))⟩

abbrev nilV : Value := .slice none 0 0
theorem want_rep {w1 w2 : World} {o1 : Obj} {n1 : Nat} (hn1 : n1 = w1.heap.size + 1) (g2 : ((w1.alloc o1).alloc (.cells (hdC (hd0 1 [66]) nilV nilV).toArray 29 (0, 0))).grownBy w2 none) (o4 : Obj) :
    VE (fun _ => True) ((w2.alloc (.cells (hdC (hd0 2 [65]) nilV (.slice (some ⟨n1, 0, none⟩) 1 1) ++ hdC (constE 2 1 []).h nilV nilV).toArray 29 (0, 0))).alloc o4) (exV (hd0 5 [43]) nilV (.slice (some ⟨w2.heap.size, 0, none⟩) 2 2)) xAb := by
  have r1 : RepL (fun _ => True) w2 (.slice (some ⟨n1, 0, none⟩) 1 1) (.one (nameE [66])) :=
    (RepL.one (x := nameE [66]) (w := w1.alloc o1) (by rw [hn1]; simp) trivial (Cells.nil _ _ _) (RepL.nil _ _)).gb g2 (by simp)
  have r2 := RepL.two (x := ⟨hd0 2 [65], .one (nameE [66])⟩) (y := constE 2 1 []) (w := w2) (n := w2.heap.size) (ok := fun _ => True) rfl trivial (Cells.nil _ 1 _) r1 (Cells.nil _ 1 _) (RepL.nil _ _)
  exact VE.node (f := .two ⟨hd0 2 [65], .one (nameE [66])⟩ (constE 2 1 [])) (r2.gb (World.grownBy_alloc _ o4 none) (by simp))

set_option maxRecDepth 40000 in
set_option maxHeartbeats 2000000 in
theorem known_any {w : World} (ht : Tabs w.heap.size w) : Calls Tryz.prog 8 #[] w fun e w' => e = .returned (.bool true) ∧ w.grownBy w' none := by
  have HE := Lib.hid (parseExpr_any ht srcAb (by decide))
  have HP := Lib.hid (fun (W : World) (g : w.grownBy W none) => parse_if ((ht.gbN g).mono g.size))
  clear ht
  generalize hsrc : srcAb = src at *
  generalize hsrc2 : srcIf = src2 at *
  go_enter Tryz.func8, Tryz.ntmps8
  rw [show (Value.string { data := #[97, 45, 62, 98, 32, 43, 32, 49] }) = str src by rw [← hsrc]; rfl, show (Value.string { data := #[105, 102, 32, 61, 32, 49] }) = str src2 by rw [← hsrc2]; rfl]
  go_wp2_with fail
  refine HE.out.mono ?_
  rintro e w1 ⟨g1, h1⟩
  rw [← hsrc, pe_ab] at h1
  obtain ⟨v, rfl, hV⟩ := h1
  obtain ⟨pa, pc, la, lc, rfl, hp, hl⟩ := hV
  have HV := Lib.hid (And.intro hp (And.intro hl g1))
  clear hp hl g1 HE hsrc
  go_wp2_with fail
  refine (num_any 1 _).mono ?_
  rintro e w2 ⟨rfl, g2⟩
  have HW := Lib.hid (want_rep (n1 := w1.heap.size + 1) rfl g2)
  have hb1 := ((Blk.new w1 (hdC xAb.h (.slice pa xAb.h.p.length pc) (.slice la xAb.kids.len lc)) 29).alloc _).gb g2 (by simp)
  have gw2 : w1.grownBy w2 none := gb_trans (gb_alloc (World.grownBy_alloc _ _ _) _) g2
  have HB1 := Lib.hid (And.intro hb1 gw2)
  clear hb1 gw2 g2
  go_wp2_with fail
  refine (HP.out _ (gb_alloc (gb_alloc (gb_trans HV.out.2.2 HB1.out.2) _) _)).mono ?_
  rintro e w3 ⟨v3, rfl, hS, g3⟩
  obtain ⟨kP, bv, rfl, hB, hblk, hrow⟩ := hS
  obtain ⟨G, cap, la', lc', e, _, _, hat⟩ := hrow.open
  subst e
  have gw3 : w2.grownBy w3 none := gb_trans (gb_alloc (World.grownBy_alloc _ _ _) _) g3
  have hx : VE (since w.heap.size) w3 (exV xAb.h (.slice pa xAb.h.p.length pc) (.slice la xAb.kids.len lc)) xAb := ⟨pa, pc, la, lc, rfl, (HV.out.1.gb HB1.out.2 (by simp)).gb gw3 (by simp), (HV.out.2.1.gb HB1.out.2 (by simp)).gb gw3 (by simp)⟩
  have hy := (HW.out _).gb g3 (by simp)
  have HS := Lib.hid (refSameExpr_any hx hy)
  have b1 := HB1.out.1.gb gw3 (by simp)
  have b4 : Blk w3 (w2.heap.size + 1) (hdC (hd0 5 [43]) nilV (.slice (some ⟨w2.heap.size, 0, none⟩) 2 2)) 29 := ((Blk.new _ _ _).of_eq (by simp) rfl).gb g3 (by simp)
  have HN := Lib.hid (And.intro hblk (And.intro (hat 0 _ rfl) (gb_trans (gb_trans HV.out.2.2 HB1.out.2) gw3)))
  clear hx hy hblk hat hrow hB gw3 g3
  have x_0 := b1.cell 0; have x_1 := b1.cell 1; have x_2 := b1.cell 2; have x_3 := b1.cell 3; have x_4 := b1.cell 4; have x_5 := b1.cell 5; have x_6 := b1.cell 6; simp only [hdC, List.getElem?_cons_zero, List.getElem?_cons_succ] at x_0 x_1 x_2 x_3 x_4 x_5 x_6; have x_f := fun i => b1.frozen i
  have y_0 := b4.cell 0; have y_1 := b4.cell 1; have y_2 := b4.cell 2; have y_3 := b4.cell 3; have y_4 := b4.cell 4; have y_5 := b4.cell 5; have y_6 := b4.cell 6; simp only [hdC, List.getElem?_cons_zero, List.getElem?_cons_succ] at y_0 y_1 y_2 y_3 y_4 y_5 y_6; have y_f := fun i => b4.frozen i
  clear b1 b4
  rw [sameX_refl] at HS
  go_wp2_with fail
  refine HS.out.mono ?_
  rintro e w4 ⟨rfl, g4⟩
  have z0 := gb_cellN g4 (HN.out.1.cell' 0 rfl)
  have z1 := gb_cellN g4 (HN.out.1.cell' 1 rfl)
  have z2 := gb_cellN g4 (HN.out.1.cell' 2 rfl)
  have z3 := gb_cellN g4 (HN.out.1.cell' 3 rfl)
  have t0 := gb_cellN g4 HN.out.2.1
  have HG := Lib.hid (gb_trans HN.out.2.2 g4)
  clear g4
  go_wp2
  go_ret
  exact ⟨rfl, HG.out⟩

end Go.Proofs.YtmcajbhljbbglaaGreatDoor

namespace Go.Proofs.YtmcajbhljbbglaaGreatDoor
open Go.RowKit

theorem two_gb {w W W1 : World} {a b : Nat} {u0 u1 u2 u3 u4 u5 u6 v0 v1 v2 v3 v4 v5 v6 : Value} (h : (W.cell? ⟨a, 0, none⟩ = some u0 ∧ W.cell? ⟨a, 1, none⟩ = some u1 ∧ W.cell? ⟨a, 2, none⟩ = some u2 ∧ W.cell? ⟨a, 3, none⟩ = some u3 ∧ W.cell? ⟨a, 4, none⟩ = some u4 ∧ W.cell? ⟨a, 5, none⟩ = some u5 ∧ W.cell? ⟨a, 6, none⟩ = some u6) ∧ (W.cell? ⟨b, 0, none⟩ = some v0 ∧ W.cell? ⟨b, 1, none⟩ = some v1 ∧ W.cell? ⟨b, 2, none⟩ = some v2 ∧ W.cell? ⟨b, 3, none⟩ = some v3 ∧ W.cell? ⟨b, 4, none⟩ = some v4 ∧ W.cell? ⟨b, 5, none⟩ = some v5 ∧ W.cell? ⟨b, 6, none⟩ = some v6) ∧ w.grownBy W none) (g : W.grownBy W1 none) :
    (W1.cell? ⟨a, 0, none⟩ = some u0 ∧ W1.cell? ⟨a, 1, none⟩ = some u1 ∧ W1.cell? ⟨a, 2, none⟩ = some u2 ∧ W1.cell? ⟨a, 3, none⟩ = some u3 ∧ W1.cell? ⟨a, 4, none⟩ = some u4 ∧ W1.cell? ⟨a, 5, none⟩ = some u5 ∧ W1.cell? ⟨a, 6, none⟩ = some u6) ∧ (W1.cell? ⟨b, 0, none⟩ = some v0 ∧ W1.cell? ⟨b, 1, none⟩ = some v1 ∧ W1.cell? ⟨b, 2, none⟩ = some v2 ∧ W1.cell? ⟨b, 3, none⟩ = some v3 ∧ W1.cell? ⟨b, 4, none⟩ = some v4 ∧ W1.cell? ⟨b, 5, none⟩ = some v5 ∧ W1.cell? ⟨b, 6, none⟩ = some v6) ∧ w.grownBy W1 none := by
  obtain ⟨⟨h0, h1, h2, h3, h4, h5, h6⟩, ⟨k0, k1, k2, k3, k4, k5, k6⟩, k⟩ := h
  exact ⟨⟨gb_cellN g h0, gb_cellN g h1, gb_cellN g h2, gb_cellN g h3, gb_cellN g h4, gb_cellN g h5, gb_cellN g h6⟩, ⟨gb_cellN g k0, gb_cellN g k1, gb_cellN g k2, gb_cellN g k3, gb_cellN g k4, gb_cellN g k5, gb_cellN g k6⟩, gb_trans k g⟩

set_option maxRecDepth 40000 in
set_option maxHeartbeats 4000000 in
theorem treeExprSames_walk {w : World} {ok ok' : Nat → Prop} {u v : Value} {x y : Ex} (ht : Tabs w.heap.size w) (hx : VE ok w u x) (hy : VE ok' w v y) :
    Calls Tryz.prog 5 #[u, v] w fun e w' => e = .returned (.bool true) ∧ w.grownBy w' none := by
  have HK := Lib.hid (fun (W : World) (g : w.grownBy W none) => known_any ((ht.gbN g).mono g.size))
  have H1 := Lib.hid (fun (W : World) (g : w.grownBy W none) => overExpr_any (hx.gb g (by simp)))
  have H2 := Lib.hid (fun (W : World) (g : w.grownBy W none) => overExpr_any (hy.gb g (by simp)))
  have H3 := Lib.hid (fun (W : World) (g : w.grownBy W none) => sameExpr_any (hx.gb g (by simp)) (hy.gb g (by simp)))
  have H4 := Lib.hid (fun (W : World) (g : w.grownBy W none) => refSameExpr_any (hx.gb g (by simp)) (hy.gb g (by simp)))
  have H5 := Lib.hid (fun (W : World) (g : w.grownBy W none) => sameExpr_any (hx.gb g (by simp)) (hx.gb g (by simp)))
  rw [sameX_refl] at H5
  generalize sameX x y = b at *
  obtain ⟨pa, pc, la, lc, rfl, _, _⟩ := hx
  obtain ⟨pb, pd, lb, ld, rfl, _, _⟩ := hy
  clear ht
  have hB1 := (Blk.new w (hdC x.h (.slice pa x.h.p.length pc) (.slice la x.kids.len lc)) 29).alloc (.cells (hdC y.h (.slice pb y.h.p.length pd) (.slice lb y.kids.len ld)).toArray 29 (0, 0))
  have hB2 : Blk ((w.alloc (.cells (hdC x.h (.slice pa x.h.p.length pc) (.slice la x.kids.len lc)).toArray 29 (0, 0))).alloc (.cells (hdC y.h (.slice pb y.h.p.length pd) (.slice lb y.kids.len ld)).toArray 29 (0, 0))) (w.heap.size + 1) (hdC y.h (.slice pb y.h.p.length pd) (.slice lb y.kids.len ld)) 29 := (Blk.new _ _ _).of_eq (by simp) rfl
  have gA : w.grownBy ((w.alloc (.cells (hdC x.h (.slice pa x.h.p.length pc) (.slice la x.kids.len lc)).toArray 29 (0, 0))).alloc (.cells (hdC y.h (.slice pb y.h.p.length pd) (.slice lb y.kids.len ld)).toArray 29 (0, 0))) none := gb_alloc (World.grownBy_alloc _ _ _) _
  have HB := Lib.hid (And.intro hB1 (And.intro hB2 gA))
  clear hB1 hB2 gA
  go_enter Tryz.func5, Tryz.ntmps5
  go_wp2_with fail
  refine (H1.out _ HB.out.2.2).mono ?_
  rintro e w1 ⟨o1, rfl, g1⟩
  cases o1 with
  | true =>
    have gw := gb_trans HB.out.2.2 g1
    go_wp2_with fail
    refine (HK.out _ gw).mono ?_
    rintro e w2 ⟨rfl, g2⟩
    go_wp2
    go_ret
    exact ⟨rfl, gb_trans gw g2⟩
  | false =>
    have HB1 := Lib.hid (And.intro (HB.out.1.gb g1 (by simp)) (And.intro (HB.out.2.1.gb g1 (by simp)) (gb_trans HB.out.2.2 g1)))
    have b2 := HB1.out.2.1
    have y_0 := b2.cell 0; have y_1 := b2.cell 1; have y_2 := b2.cell 2; have y_3 := b2.cell 3; have y_4 := b2.cell 4; have y_5 := b2.cell 5; have y_6 := b2.cell 6; simp only [hdC, List.getElem?_cons_zero, List.getElem?_cons_succ] at y_0 y_1 y_2 y_3 y_4 y_5 y_6; have y_f := fun i => b2.frozen i
    clear b2 g1 HB
    go_wp2_with fail
    refine (H2.out _ HB1.out.2.2).mono ?_
    rintro e w2 ⟨o2, rfl, g2⟩
    clear y_0 y_1 y_2 y_3 y_4 y_5 y_6 y_f
    cases o2 with
    | true =>
      have gw := gb_trans HB1.out.2.2 g2
      go_wp2_with fail
      refine (HK.out _ gw).mono ?_
      rintro e w3 ⟨rfl, g3⟩
      go_wp2
      go_ret
      exact ⟨rfl, gb_trans gw g3⟩
    | false =>
      have HB2 := Lib.hid (And.intro (HB1.out.1.gb g2 (by simp)) (And.intro (HB1.out.2.1.gb g2 (by simp)) (gb_trans HB1.out.2.2 g2)))
      have b1 := HB2.out.1
      have b2 := HB2.out.2.1
      have x_0 := b1.cell 0; have x_1 := b1.cell 1; have x_2 := b1.cell 2; have x_3 := b1.cell 3; have x_4 := b1.cell 4; have x_5 := b1.cell 5; have x_6 := b1.cell 6; simp only [hdC, List.getElem?_cons_zero, List.getElem?_cons_succ] at x_0 x_1 x_2 x_3 x_4 x_5 x_6; have x_f := fun i => b1.frozen i
      have y_0 := b2.cell 0; have y_1 := b2.cell 1; have y_2 := b2.cell 2; have y_3 := b2.cell 3; have y_4 := b2.cell 4; have y_5 := b2.cell 5; have y_6 := b2.cell 6; simp only [hdC, List.getElem?_cons_zero, List.getElem?_cons_succ] at y_0 y_1 y_2 y_3 y_4 y_5 y_6; have y_f := fun i => b2.frozen i
      have gw := HB2.out.2.2
      clear b1 b2 g2 HB1 x_f y_f
      go_wp2_with fail
      go_region_held3 (fun W => (W.cell? ⟨w.heap.size, 0, none⟩ = some (.int .i64 x.h.op) ∧ W.cell? ⟨w.heap.size, 1, none⟩ = some (str x.h.s) ∧ W.cell? ⟨w.heap.size, 2, none⟩ = some (.int .i64 x.h.vk) ∧ W.cell? ⟨w.heap.size, 3, none⟩ = some (.int .i64 x.h.vn) ∧ W.cell? ⟨w.heap.size, 4, none⟩ = some (str x.h.vs) ∧ W.cell? ⟨w.heap.size, 5, none⟩ = some (.slice pa x.h.p.length pc) ∧ W.cell? ⟨w.heap.size, 6, none⟩ = some (.slice la x.kids.len lc)) ∧
          (W.cell? ⟨w.heap.size + 1, 0, none⟩ = some (.int .i64 y.h.op) ∧ W.cell? ⟨w.heap.size + 1, 1, none⟩ = some (str y.h.s) ∧ W.cell? ⟨w.heap.size + 1, 2, none⟩ = some (.int .i64 y.h.vk) ∧ W.cell? ⟨w.heap.size + 1, 3, none⟩ = some (.int .i64 y.h.vn) ∧ W.cell? ⟨w.heap.size + 1, 4, none⟩ = some (str y.h.vs) ∧ W.cell? ⟨w.heap.size + 1, 5, none⟩ = some (.slice pb y.h.p.length pd) ∧ W.cell? ⟨w.heap.size + 1, 6, none⟩ = some (.slice lb y.kids.len ld)) ∧ w.grownBy W none)
        (first | exact ⟨⟨x_0, x_1, x_2, x_3, x_4, x_5, x_6⟩, ⟨y_0, y_1, y_2, y_3, y_4, y_5, y_6⟩, gb_drew gw⟩ | exact two_gb (by assumption) g5)
        (first | (go_at_call 11; refine (H4.out _ ?_).mono ?_; (simp [*]); rintro e w5 ⟨rfl, g5⟩) | (go_at_call 8; refine (HK.out _ ?_).mono ?_; (simp [*]); rintro e w5 ⟨rfl, g5⟩) | (go_at_call 16; (with_reducible refine (H3.out _ ?_).mono ?_); (simp [*]); rintro e w5 ⟨rfl, g5⟩) | (go_at_call 16; (with_reducible refine (H5.out _ ?_).mono ?_); (simp [*]); rintro e w5 ⟨rfl, g5⟩))
      rename_i hH
      have HG := Lib.hid hH.2.2
      clear hH x_0 x_1 x_2 x_3 x_4 x_5 x_6 y_0 y_1 y_2 y_3 y_4 y_5 y_6
      go_wp2
      go_ret
      exact ⟨rfl, HG.out⟩

end Go.Proofs.YtmcajbhljbbglaaGreatDoor
