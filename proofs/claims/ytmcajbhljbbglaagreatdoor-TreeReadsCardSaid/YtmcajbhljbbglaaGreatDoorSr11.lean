/-
  The reference's reader: expr, and.
  The reference's reader: sum, prod.
  The reference's reader: pow, not.
-/
import Derived.Test.YtmcajbhljbbglaaGreatDoorSr10
set_option linter.all false
set_option linter.unusedVariables false
set_option linter.unusedSimpArgs false
set_option linter.unnecessarySimpa false
set_option linter.constructorNameAsVariable false
set_option linter.deprecated false

namespace Go.Proofs.YtmcajbhljbbglaaGreatDoor
open Go.RowKit
section
variable {b : Nat} {tv : Value} {l : List Tok}

set_option maxRecDepth 20000 in
set_option maxHeartbeats 2000000 in
theorem rexpr_step {opnd : FR Ex} (hop : CR 60 b tv l opnd) (n : Nat) : CR 28 b tv l (chainR l orL n opnd) := by
  show CR 28 b tv l (chainR l [[46, 79, 82, 46]] n opnd)
  intro w st r h ho
  have hb := h.lt
  unfold chainR at ho
  obtain ⟨⟨x, st1⟩, hx, ho⟩ := Option.bind_eq_some_iff.1 ho
  simp only at ho
  have gz : w.grownBy (w.alloc (.cells zeroE.toArray 29 (0, 0))) (some b) := gb_alloc (gb_refl _ _) _
  have hz := Blk.new w zeroE 29
  have h0 := h.alloc (.cells zeroE.toArray 29 (0, 0))
  have hw0 : w.heap.size < (w.alloc (.cells zeroE.toArray 29 (0, 0))).heap.size := by simp
  have HX := Lib.hid (hop _ _ _ h0 hx)
  have H := Lib.hid (And.intro hop (And.intro ho (And.intro hz (And.intro gz hw0))))
  clear hop ho hx hz gz h0 hw0
  go_enter Tryz.func28, Tryz.ntmps28
  go_wp2_with fail
  refine HX.out.mono ?_
  rintro e w1 ⟨g1, v, rfl, ⟨pa, pc, la, lc, rfl, rp, rl⟩, h1⟩
  simp only at rp rl h1 ⊢
  have HK := Lib.hid (KpR.new hb H.out.2.2.1 H.out.2.2.2.1 H.out.2.2.2.2 g1 rp rl h1)
  have hb1 := h1.lt
  clear rp rl h1 HX g1
  go_wp2_with fail
  go_loopg [] n (fun m wr => ∃ x pa pc la lc st, KpR b tv l w w1.heap.size wr x pa pc la lc st ∧ loopR l [[46, 79, 82, 46]] opnd m x st = some r)
  case atStart => exact ⟨x, pa, pc, la, lc, _, HK.out, H.out.2.1⟩
  case round =>
    obtain ⟨x, pa, pc, la, lc, st2, hk, hloop⟩ := hrel
    clear HK
    cases gk with
    | zero => cases hloop
    | succ m =>
    rw [loopR_take (by decide)] at hloop
    have HT := Lib.hid (rtake_any hk.rr [46, 79, 82, 46])
    have HK := Lib.hid hk
    cases hs : hereR l [46, 79, 82, 46] st2 with
    | false =>
      rw [hs] at HT hloop
      have HQ := Lib.hid (show some (x, takeR l [46, 79, 82, 46] st2) = some r from hloop)
      clear hloop hs hk
      go_wp2_with fail
      refine HT.out.mono ?_
      rintro e w2 ⟨g2, v, rfl, rfl, h2⟩
      have hk2 := HK.out.gb hb g2 h2
      have hL := hk2.blk
      have hZ := hk2.zero
      have hwL := hk2.wL
      have HK2 := Lib.hid hk2
      clear hk2 g2 h2
      have cl_0 := hL.cell 0; have cl_1 := hL.cell 1; have cl_2 := hL.cell 2; have cl_3 := hL.cell 3; have cl_4 := hL.cell 4; have cl_5 := hL.cell 5; have cl_6 := hL.cell 6; simp only [hdC, List.getElem?_cons_zero, List.getElem?_cons_succ] at cl_0 cl_1 cl_2 cl_3 cl_4 cl_5 cl_6; have cl_f := fun i => hL.frozen i
      have cz_0 := hZ.cell 0; have cz_1 := hZ.cell 1; have cz_2 := hZ.cell 2; have cz_3 := hZ.cell 3; have cz_4 := hZ.cell 4; have cz_5 := hZ.cell 5; have cz_6 := hZ.cell 6; simp only [hdC, List.getElem?_cons_zero, List.getElem?_cons_succ] at cz_0 cz_1 cz_2 cz_3 cz_4 cz_5 cz_6; have cz_f := fun i => hZ.frozen i
      go_wp2
      have hk := HK2.out
      have g7 := gb_set7 w2 w.heap.size (.int .i64 x.h.op) (str x.h.s) (.int .i64 x.h.vk) (.int .i64 x.h.vn) (str x.h.vs) (.slice pa x.h.p.length pc) (.slice la x.kids.len lc)
      have e1 := HQ.out
      cases e1
      exact bodyPost_ret (results_ex rfl _ (hZ.set7 _ _ _ _ _ _ _) rfl) rfl (rpe_copy hb hk.gr hk.ve (by intro k hk; exact hk.1) hk.rr g7)
    | true =>
      rw [hs] at HT hloop
      have hq : (opnd (takeR l [46, 79, 82, 46] st2)).bind (fun r => loopR l [[46, 79, 82, 46]] opnd m (binE [46, 79, 82, 46] x r.1) r.2) = some r := hloop
      obtain ⟨⟨z, st3⟩, hy, hq⟩ := Option.bind_eq_some_iff.1 hq
      simp only at hq
      have HQ := Lib.hid hq
      have HY := Lib.hid hy
      clear hloop hs hk hq hy
      go_wp2_with fail
      refine HT.out.mono ?_
      rintro e w2 ⟨g2, v, rfl, rfl, h2⟩
      have hk2 := HK.out.gb hb g2 h2
      have hL := hk2.blk
      have hwL := hk2.wL
      have hbL := hk2.bL
      have HK2 := Lib.hid hk2
      clear hk2 g2 h2
      have cl_0 := hL.cell 0; have cl_1 := hL.cell 1; have cl_2 := hL.cell 2; have cl_3 := hL.cell 3; have cl_4 := hL.cell 4; have cl_5 := hL.cell 5; have cl_6 := hL.cell 6; simp only [hdC, List.getElem?_cons_zero, List.getElem?_cons_succ] at cl_0 cl_1 cl_2 cl_3 cl_4 cl_5 cl_6; have cl_f := fun i => hL.frozen i
      have hLb := hL.lt
      go_wp2_with fail
      go_region_with (first | (go_at_call 60; refine (H.out.1 _ _ _ (HK2.out.rr.drewN 1) HY.out).mono ?_; rintro e w4 ⟨g4, v, rfl, hv, h4⟩; have hk4 := HK2.out.gb hb (gb_trans (gb_drew (gb_refl w2 (some b))) g4) h4; have hL4 := hk4.blk; have dl_0 := hL4.cell 0; have dl_1 := hL4.cell 1; have dl_2 := hL4.cell 2; have dl_3 := hL4.cell 3; have dl_4 := hL4.cell 4; have dl_5 := hL4.cell 5; have dl_6 := hL4.cell 6; simp only [hdC, List.getElem?_cons_zero, List.getElem?_cons_succ] at dl_0 dl_1 dl_2 dl_3 dl_4 dl_5 dl_6; have dl_f := fun i => hL4.frozen i; have hok : ∀ q, w4.heap.size ≤ q → but w w1.heap.size q := (fun q hq => by have := hL4.lt; exact ⟨by omega, by omega⟩); have hz : VE (but w w1.heap.size) w4 v z := hv.mono (fun q hq _ => by have hq : w2.heap.size ≤ q := hq; exact ⟨by omega, by omega⟩); have HZ4 := Lib.hid (And.intro hk4 (And.intro hok hz)); clear hk4 hok hz hv h4) | (go_at_call 62; refine (rbin_any [46, 79, 82, 46] x z _ _ HZ4.out.2.1 HZ4.out.1.ve HZ4.out.2.2).mono ?_; rintro e w5 ⟨u, rfl, hu, g5⟩; obtain ⟨ua, uc, va, vc, rfl, ru, rv⟩ := hu; have hL5 := hL4.gb g5 (by simp); have el_0 := hL5.cell 0; have el_1 := hL5.cell 1; have el_2 := hL5.cell 2; have el_3 := hL5.cell 3; have el_4 := hL5.cell 4; have el_5 := hL5.cell 5; have el_6 := hL5.cell 6; simp only [hdC, List.getElem?_cons_zero, List.getElem?_cons_succ] at el_0 el_1 el_2 el_3 el_4 el_5 el_6; have el_f := fun i => hL5.frozen i; have HU := Lib.hid (And.intro g5 (And.intro ru rv)); clear g5 ru rv))
      all_goals
        have hK7 := (HZ4.out.1.gbN hb HU.out.1).store (z := binE [46, 79, 82, 46] x z) hb HU.out.2.1 HU.out.2.2
        have HK7 := Lib.hid hK7
        clear hK7
        go_wp2_with fail
        go_roundg m
        case measure => omega
        case rel => exact ⟨binE [46, 79, 82, 46] x z, ua, uc, va, vc, _, HK7.out, HQ.out⟩

set_option maxRecDepth 20000 in
set_option maxHeartbeats 2000000 in
theorem rand_any {opnd : FR Ex} (hop : CR 93 b tv l opnd) (n : Nat) : CR 60 b tv l (chainR l andL n opnd) := by
  show CR 60 b tv l (chainR l [[46, 65, 78, 68, 46]] n opnd)
  intro w st r h ho
  have hb := h.lt
  unfold chainR at ho
  obtain ⟨⟨x, st1⟩, hx, ho⟩ := Option.bind_eq_some_iff.1 ho
  simp only at ho
  have gz : w.grownBy (w.alloc (.cells zeroE.toArray 29 (0, 0))) (some b) := gb_alloc (gb_refl _ _) _
  have hz := Blk.new w zeroE 29
  have h0 := h.alloc (.cells zeroE.toArray 29 (0, 0))
  have hw0 : w.heap.size < (w.alloc (.cells zeroE.toArray 29 (0, 0))).heap.size := by simp
  have HX := Lib.hid (hop _ _ _ h0 hx)
  have H := Lib.hid (And.intro hop (And.intro ho (And.intro hz (And.intro gz hw0))))
  clear hop ho hx hz gz h0 hw0
  go_enter Tryz.func60, Tryz.ntmps60
  go_wp2_with fail
  refine HX.out.mono ?_
  rintro e w1 ⟨g1, v, rfl, ⟨pa, pc, la, lc, rfl, rp, rl⟩, h1⟩
  simp only at rp rl h1 ⊢
  have HK := Lib.hid (KpR.new hb H.out.2.2.1 H.out.2.2.2.1 H.out.2.2.2.2 g1 rp rl h1)
  have hb1 := h1.lt
  clear rp rl h1 HX g1
  go_wp2_with fail
  go_loopg [] n (fun m wr => ∃ x pa pc la lc st, KpR b tv l w w1.heap.size wr x pa pc la lc st ∧ loopR l [[46, 65, 78, 68, 46]] opnd m x st = some r)
  case atStart => exact ⟨x, pa, pc, la, lc, _, HK.out, H.out.2.1⟩
  case round =>
    obtain ⟨x, pa, pc, la, lc, st2, hk, hloop⟩ := hrel
    clear HK
    cases gk with
    | zero => cases hloop
    | succ m =>
    rw [loopR_take (by decide)] at hloop
    have HT := Lib.hid (rtake_any hk.rr [46, 65, 78, 68, 46])
    have HK := Lib.hid hk
    cases hs : hereR l [46, 65, 78, 68, 46] st2 with
    | false =>
      rw [hs] at HT hloop
      have HQ := Lib.hid (show some (x, takeR l [46, 65, 78, 68, 46] st2) = some r from hloop)
      clear hloop hs hk
      go_wp2_with fail
      refine HT.out.mono ?_
      rintro e w2 ⟨g2, v, rfl, rfl, h2⟩
      have hk2 := HK.out.gb hb g2 h2
      have hL := hk2.blk
      have hZ := hk2.zero
      have hwL := hk2.wL
      have HK2 := Lib.hid hk2
      clear hk2 g2 h2
      have cl_0 := hL.cell 0; have cl_1 := hL.cell 1; have cl_2 := hL.cell 2; have cl_3 := hL.cell 3; have cl_4 := hL.cell 4; have cl_5 := hL.cell 5; have cl_6 := hL.cell 6; simp only [hdC, List.getElem?_cons_zero, List.getElem?_cons_succ] at cl_0 cl_1 cl_2 cl_3 cl_4 cl_5 cl_6; have cl_f := fun i => hL.frozen i
      have cz_0 := hZ.cell 0; have cz_1 := hZ.cell 1; have cz_2 := hZ.cell 2; have cz_3 := hZ.cell 3; have cz_4 := hZ.cell 4; have cz_5 := hZ.cell 5; have cz_6 := hZ.cell 6; simp only [hdC, List.getElem?_cons_zero, List.getElem?_cons_succ] at cz_0 cz_1 cz_2 cz_3 cz_4 cz_5 cz_6; have cz_f := fun i => hZ.frozen i
      go_wp2
      have hk := HK2.out
      have g7 := gb_set7 w2 w.heap.size (.int .i64 x.h.op) (str x.h.s) (.int .i64 x.h.vk) (.int .i64 x.h.vn) (str x.h.vs) (.slice pa x.h.p.length pc) (.slice la x.kids.len lc)
      have e1 := HQ.out
      cases e1
      exact bodyPost_ret (results_ex rfl _ (hZ.set7 _ _ _ _ _ _ _) rfl) rfl (rpe_copy hb hk.gr hk.ve (by intro k hk; exact hk.1) hk.rr g7)
    | true =>
      rw [hs] at HT hloop
      have hq : (opnd (takeR l [46, 65, 78, 68, 46] st2)).bind (fun r => loopR l [[46, 65, 78, 68, 46]] opnd m (binE [46, 65, 78, 68, 46] x r.1) r.2) = some r := hloop
      obtain ⟨⟨z, st3⟩, hy, hq⟩ := Option.bind_eq_some_iff.1 hq
      simp only at hq
      have HQ := Lib.hid hq
      have HY := Lib.hid hy
      clear hloop hs hk hq hy
      go_wp2_with fail
      refine HT.out.mono ?_
      rintro e w2 ⟨g2, v, rfl, rfl, h2⟩
      have hk2 := HK.out.gb hb g2 h2
      have hL := hk2.blk
      have hwL := hk2.wL
      have hbL := hk2.bL
      have HK2 := Lib.hid hk2
      clear hk2 g2 h2
      have cl_0 := hL.cell 0; have cl_1 := hL.cell 1; have cl_2 := hL.cell 2; have cl_3 := hL.cell 3; have cl_4 := hL.cell 4; have cl_5 := hL.cell 5; have cl_6 := hL.cell 6; simp only [hdC, List.getElem?_cons_zero, List.getElem?_cons_succ] at cl_0 cl_1 cl_2 cl_3 cl_4 cl_5 cl_6; have cl_f := fun i => hL.frozen i
      have hLb := hL.lt
      go_wp2_with fail
      go_region_with (first | (go_at_call 93; refine (H.out.1 _ _ _ (HK2.out.rr.drewN 1) HY.out).mono ?_; rintro e w4 ⟨g4, v, rfl, hv, h4⟩; have hk4 := HK2.out.gb hb (gb_trans (gb_drew (gb_refl w2 (some b))) g4) h4; have hL4 := hk4.blk; have dl_0 := hL4.cell 0; have dl_1 := hL4.cell 1; have dl_2 := hL4.cell 2; have dl_3 := hL4.cell 3; have dl_4 := hL4.cell 4; have dl_5 := hL4.cell 5; have dl_6 := hL4.cell 6; simp only [hdC, List.getElem?_cons_zero, List.getElem?_cons_succ] at dl_0 dl_1 dl_2 dl_3 dl_4 dl_5 dl_6; have dl_f := fun i => hL4.frozen i; have hok : ∀ q, w4.heap.size ≤ q → but w w1.heap.size q := (fun q hq => by have := hL4.lt; exact ⟨by omega, by omega⟩); have hz : VE (but w w1.heap.size) w4 v z := hv.mono (fun q hq _ => by have hq : w2.heap.size ≤ q := hq; exact ⟨by omega, by omega⟩); have HZ4 := Lib.hid (And.intro hk4 (And.intro hok hz)); clear hk4 hok hz hv h4) | (go_at_call 62; refine (rbin_any [46, 65, 78, 68, 46] x z _ _ HZ4.out.2.1 HZ4.out.1.ve HZ4.out.2.2).mono ?_; rintro e w5 ⟨u, rfl, hu, g5⟩; obtain ⟨ua, uc, va, vc, rfl, ru, rv⟩ := hu; have hL5 := hL4.gb g5 (by simp); have el_0 := hL5.cell 0; have el_1 := hL5.cell 1; have el_2 := hL5.cell 2; have el_3 := hL5.cell 3; have el_4 := hL5.cell 4; have el_5 := hL5.cell 5; have el_6 := hL5.cell 6; simp only [hdC, List.getElem?_cons_zero, List.getElem?_cons_succ] at el_0 el_1 el_2 el_3 el_4 el_5 el_6; have el_f := fun i => hL5.frozen i; have HU := Lib.hid (And.intro g5 (And.intro ru rv)); clear g5 ru rv))
      all_goals
        have hK7 := (HZ4.out.1.gbN hb HU.out.1).store (z := binE [46, 65, 78, 68, 46] x z) hb HU.out.2.1 HU.out.2.2
        have HK7 := Lib.hid hK7
        clear hK7
        go_wp2_with fail
        go_roundg m
        case measure => omega
        case rel => exact ⟨binE [46, 65, 78, 68, 46] x z, ua, uc, va, vc, _, HK7.out, HQ.out⟩
end

end Go.Proofs.YtmcajbhljbbglaaGreatDoor

namespace Go.Proofs.YtmcajbhljbbglaaGreatDoor
open Go.RowKit
section
variable {b : Nat} {tv : Value} {l : List Tok}

/-- 'sign' at a row of signs that was laid just now -/
theorem rsign_new {W : World} {st : RS} (h : Rr W b tv l st) (L : List Bs) (hne : ∀ s ∈ L, s ≠ []) (hl : L.length ≤ 100) (n : Nat) (hn : n = W.heap.size) (m : Nat) (hm : L.length = m) :
    Calls Tryz.prog 126 #[.pointer (some ⟨b, 0, none⟩), .slice (some ⟨n, 0, none⟩) m m] (W.alloc (.cells (L.map str).toArray 9 (0, 0))) (RPost b tv l (W.alloc (.cells (L.map str).toArray 9 (0, 0))) VStr (signR l L st)) := by
  subst hm
  exact rsign_any (h.alloc _) (ok := fun k => k = n) (Cells.new' hn (by simp) (by unfold maxLen; omega) rfl) (by intro k hk; have := h.lt; omega) hne hl

set_option maxRecDepth 20000 in
set_option maxHeartbeats 2000000 in
theorem rsum_any {opnd : FR Ex} (hop : CR 177 b tv l opnd) (n : Nat) : CR 127 b tv l (chainR l sumL n opnd) := by
  show CR 127 b tv l (chainR l [[43], [45]] n opnd)
  intro w st r h ho
  have hb := h.lt
  unfold chainR at ho
  obtain ⟨⟨x, st1⟩, hx, ho⟩ := Option.bind_eq_some_iff.1 ho
  simp only at ho
  have gz : w.grownBy (w.alloc (.cells zeroE.toArray 29 (0, 0))) (some b) := gb_alloc (gb_refl _ _) _
  have hz := Blk.new w zeroE 29
  have h0 := h.alloc (.cells zeroE.toArray 29 (0, 0))
  have hw0 : w.heap.size < (w.alloc (.cells zeroE.toArray 29 (0, 0))).heap.size := by simp
  have HX := Lib.hid (hop _ _ _ h0 hx)
  have H := Lib.hid (And.intro hop (And.intro ho (And.intro hz (And.intro gz hw0))))
  clear hop ho hx hz gz h0 hw0
  go_enter Tryz.func127, Tryz.ntmps127
  go_wp2_with fail
  refine HX.out.mono ?_
  rintro e w1 ⟨g1, v, rfl, ⟨pa, pc, la, lc, rfl, rp, rl⟩, h1⟩
  simp only at rp rl h1 ⊢
  have hK := KpR.new hb H.out.2.2.1 H.out.2.2.2.1 H.out.2.2.2.2 g1 rp rl h1
  have hb1 := h1.lt
  have HS := Lib.hid (rsign_new hK.rr [[43], [45]] (by decide) (by decide) (w1.heap.size + 1) (by simp) 2 rfl)
  have HK := Lib.hid hK
  clear rp rl h1 HX g1 hK
  go_wp2_with fail
  refine HS.out.mono ?_
  rintro e w2 ⟨g2, v, rfl, rfl, h2⟩
  have HK2 := Lib.hid ((HK.out.gbN hb (World.grownBy_alloc _ _ none)).gb hb g2 h2)
  clear HS HK g2 h2
  go_wp2_with fail
  go_loopg [4] n (fun m v4 wr => ∃ x pa pc la lc st, v4 = str (signOf l [[43], [45]] st) ∧ KpR b tv l w w1.heap.size wr x pa pc la lc (signR l [[43], [45]] st).2 ∧ loopR l [[43], [45]] opnd m x st = some r)
  case atStart => exact ⟨x, pa, pc, la, lc, st1, rfl, HK2.out, H.out.2.1⟩
  case round =>
    obtain ⟨x, pa, pc, la, lc, st2, rfl, hk, hloop⟩ := hrel
    clear HK2
    cases gk with
    | zero => cases hloop
    | succ m =>
    rw [loopR] at hloop
    generalize hso : signOf l [[43], [45]] st2 = o at *
    by_cases he : o = []
    · subst he
      have HQ := Lib.hid (show some (x, (signR l [[43], [45]] st2).2) = some r from hloop)
      have hL := hk.blk
      have hZ := hk.zero
      have hwL := hk.wL
      have HK2 := Lib.hid hk
      clear hk hloop
      have cl_0 := hL.cell 0; have cl_1 := hL.cell 1; have cl_2 := hL.cell 2; have cl_3 := hL.cell 3; have cl_4 := hL.cell 4; have cl_5 := hL.cell 5; have cl_6 := hL.cell 6; simp only [hdC, List.getElem?_cons_zero, List.getElem?_cons_succ] at cl_0 cl_1 cl_2 cl_3 cl_4 cl_5 cl_6; have cl_f := fun i => hL.frozen i
      have cz_0 := hZ.cell 0; have cz_1 := hZ.cell 1; have cz_2 := hZ.cell 2; have cz_3 := hZ.cell 3; have cz_4 := hZ.cell 4; have cz_5 := hZ.cell 5; have cz_6 := hZ.cell 6; simp only [hdC, List.getElem?_cons_zero, List.getElem?_cons_succ] at cz_0 cz_1 cz_2 cz_3 cz_4 cz_5 cz_6; have cz_f := fun i => hZ.frozen i
      go_wp2
      have hk := HK2.out
      have g7 := gb_set7 wr w.heap.size (.int .i64 x.h.op) (str x.h.s) (.int .i64 x.h.vk) (.int .i64 x.h.vn) (str x.h.vs) (.slice pa x.h.p.length pc) (.slice la x.kids.len lc)
      have e1 := HQ.out
      cases e1
      exact bodyPost_ret (results_ex rfl _ (hZ.set7 _ _ _ _ _ _ _) rfl) rfl (rpe_copy hb hk.gr hk.ve (by intro k hk; exact hk.1) hk.rr g7)
    · have hs0 : (o == []) = false := by simpa using he
      have hs2 : o.isEmpty = false := by simpa using he
      rw [hs2] at hloop
      have hq : (opnd (signR l [[43], [45]] st2).2).bind (fun r => loopR l [[43], [45]] opnd m (binE o x r.1) r.2) = some r := hloop
      obtain ⟨⟨z, st3⟩, hy, hq⟩ := Option.bind_eq_some_iff.1 hq
      simp only at hq
      have HQ := Lib.hid hq
      have HY := Lib.hid hy
      have hL := hk.blk
      have hwL := hk.wL
      have hbL := hk.bL
      have HK2 := Lib.hid hk
      clear hloop hk hq hy hs2 he hso
      have cl_0 := hL.cell 0; have cl_1 := hL.cell 1; have cl_2 := hL.cell 2; have cl_3 := hL.cell 3; have cl_4 := hL.cell 4; have cl_5 := hL.cell 5; have cl_6 := hL.cell 6; simp only [hdC, List.getElem?_cons_zero, List.getElem?_cons_succ] at cl_0 cl_1 cl_2 cl_3 cl_4 cl_5 cl_6; have cl_f := fun i => hL.frozen i
      have hLb := hL.lt
      go_wp2_with fail
      go_region_with (first | (go_at_call 177; refine (H.out.1 _ _ _ (HK2.out.rr.drewN 1) HY.out).mono ?_; rintro e w4 ⟨g4, v, rfl, hv, h4⟩; have hk4 := HK2.out.gb hb (gb_trans (gb_drew (gb_refl wr (some b))) g4) h4; have hL4 := hk4.blk; have dl_0 := hL4.cell 0; have dl_1 := hL4.cell 1; have dl_2 := hL4.cell 2; have dl_3 := hL4.cell 3; have dl_4 := hL4.cell 4; have dl_5 := hL4.cell 5; have dl_6 := hL4.cell 6; simp only [hdC, List.getElem?_cons_zero, List.getElem?_cons_succ] at dl_0 dl_1 dl_2 dl_3 dl_4 dl_5 dl_6; have dl_f := fun i => hL4.frozen i; have hok : ∀ q, w4.heap.size ≤ q → but w w1.heap.size q := (fun q hq => by have := hL4.lt; exact ⟨by omega, by omega⟩); have hz : VE (but w w1.heap.size) w4 v z := hv.mono (fun q hq _ => by have hq : wr.heap.size ≤ q := hq; exact ⟨by omega, by omega⟩); have HZ4 := Lib.hid (And.intro hk4 (And.intro hok hz)); clear hk4 hok hz hv h4) | (go_at_call 62; refine (rbin_any o x z _ _ HZ4.out.2.1 HZ4.out.1.ve HZ4.out.2.2).mono ?_; rintro e w5 ⟨u, rfl, hu, g5⟩; obtain ⟨ua, uc, va, vc, rfl, ru, rv⟩ := hu; have hL5 := hL4.gb g5 (by simp); have el_0 := hL5.cell 0; have el_1 := hL5.cell 1; have el_2 := hL5.cell 2; have el_3 := hL5.cell 3; have el_4 := hL5.cell 4; have el_5 := hL5.cell 5; have el_6 := hL5.cell 6; simp only [hdC, List.getElem?_cons_zero, List.getElem?_cons_succ] at el_0 el_1 el_2 el_3 el_4 el_5 el_6; have el_f := fun i => hL5.frozen i; have HU := Lib.hid (And.intro g5 (And.intro ru rv)); clear g5 ru rv))
      all_goals
        have hK7 := (HZ4.out.1.gbN hb HU.out.1).store (z := binE o x z) hb HU.out.2.1 HU.out.2.2
        simp only [set7] at hK7
        clear cl_0 cl_1 cl_2 cl_3 cl_4 cl_5 cl_6 cl_f dl_0 dl_1 dl_2 dl_3 dl_4 dl_5 dl_6 dl_f el_0 el_1 el_2 el_3 el_4 el_5 el_6 el_f hL4 hL5 hL
        generalize hbe : binE o x z = bz at *
        generalize (((((((w5.setCell { block := w1.heap.size, off := 0 } (.int .i64 bz.h.op)).setCell { block := w1.heap.size, off := 1 } (.string { data := List.toArray bz.h.s })).setCell { block := w1.heap.size, off := 2 } (.int .i64 bz.h.vk)).setCell { block := w1.heap.size, off := 3 } (.int .i64 bz.h.vn)).setCell { block := w1.heap.size, off := 4 } (.string { data := List.toArray bz.h.vs })).setCell { block := w1.heap.size, off := 5 } (.slice ua bz.h.p.length uc)).setCell { block := w1.heap.size, off := 6 } (.slice va bz.kids.len vc)) = W at *
        have HS := Lib.hid (rsign_new hK7.rr [[43], [45]] (by decide) (by decide) W.heap.size rfl 2 rfl)
        have HK7 := Lib.hid hK7
        have hbW := hK7.rr.lt
        clear hK7
        go_wp2_with fail
        refine HS.out.mono ?_
        rintro e w8 ⟨g8, v, rfl, rfl, h8⟩
        have HK8 := Lib.hid ((HK7.out.gbN hb (World.grownBy_alloc _ _ none)).gb hb g8 h8)
        clear HS HK7 g8 h8
        go_wp2_with fail
        go_roundg m
        case measure => omega
        case rel => exact ⟨bz, ua, uc, va, vc, st3, rfl, HK8.out, HQ.out⟩

set_option maxRecDepth 20000 in
set_option maxHeartbeats 2000000 in
theorem rprod_any {opnd : FR Ex} (hop : CR 214 b tv l opnd) (n : Nat) : CR 177 b tv l (chainR l prodL n opnd) := by
  show CR 177 b tv l (chainR l [[42], [47], [37]] n opnd)
  intro w st r h ho
  have hb := h.lt
  unfold chainR at ho
  obtain ⟨⟨x, st1⟩, hx, ho⟩ := Option.bind_eq_some_iff.1 ho
  simp only at ho
  have gz : w.grownBy (w.alloc (.cells zeroE.toArray 29 (0, 0))) (some b) := gb_alloc (gb_refl _ _) _
  have hz := Blk.new w zeroE 29
  have h0 := h.alloc (.cells zeroE.toArray 29 (0, 0))
  have hw0 : w.heap.size < (w.alloc (.cells zeroE.toArray 29 (0, 0))).heap.size := by simp
  have HX := Lib.hid (hop _ _ _ h0 hx)
  have H := Lib.hid (And.intro hop (And.intro ho (And.intro hz (And.intro gz hw0))))
  clear hop ho hx hz gz h0 hw0
  go_enter Tryz.func177, Tryz.ntmps177
  go_wp2_with fail
  refine HX.out.mono ?_
  rintro e w1 ⟨g1, v, rfl, ⟨pa, pc, la, lc, rfl, rp, rl⟩, h1⟩
  simp only at rp rl h1 ⊢
  have hK := KpR.new hb H.out.2.2.1 H.out.2.2.2.1 H.out.2.2.2.2 g1 rp rl h1
  have hb1 := h1.lt
  have HS := Lib.hid (rsign_new hK.rr [[42], [47], [37]] (by decide) (by decide) (w1.heap.size + 1) (by simp) 3 rfl)
  have HK := Lib.hid hK
  clear rp rl h1 HX g1 hK
  go_wp2_with fail
  refine HS.out.mono ?_
  rintro e w2 ⟨g2, v, rfl, rfl, h2⟩
  have HK2 := Lib.hid ((HK.out.gbN hb (World.grownBy_alloc _ _ none)).gb hb g2 h2)
  clear HS HK g2 h2
  go_wp2_with fail
  go_loopg [4] n (fun m v4 wr => ∃ x pa pc la lc st, v4 = str (signOf l [[42], [47], [37]] st) ∧ KpR b tv l w w1.heap.size wr x pa pc la lc (signR l [[42], [47], [37]] st).2 ∧ loopR l [[42], [47], [37]] opnd m x st = some r)
  case atStart => exact ⟨x, pa, pc, la, lc, st1, rfl, HK2.out, H.out.2.1⟩
  case round =>
    obtain ⟨x, pa, pc, la, lc, st2, rfl, hk, hloop⟩ := hrel
    clear HK2
    cases gk with
    | zero => cases hloop
    | succ m =>
    rw [loopR] at hloop
    generalize hso : signOf l [[42], [47], [37]] st2 = o at *
    by_cases he : o = []
    · subst he
      have HQ := Lib.hid (show some (x, (signR l [[42], [47], [37]] st2).2) = some r from hloop)
      have hL := hk.blk
      have hZ := hk.zero
      have hwL := hk.wL
      have HK2 := Lib.hid hk
      clear hk hloop
      have cl_0 := hL.cell 0; have cl_1 := hL.cell 1; have cl_2 := hL.cell 2; have cl_3 := hL.cell 3; have cl_4 := hL.cell 4; have cl_5 := hL.cell 5; have cl_6 := hL.cell 6; simp only [hdC, List.getElem?_cons_zero, List.getElem?_cons_succ] at cl_0 cl_1 cl_2 cl_3 cl_4 cl_5 cl_6; have cl_f := fun i => hL.frozen i
      have cz_0 := hZ.cell 0; have cz_1 := hZ.cell 1; have cz_2 := hZ.cell 2; have cz_3 := hZ.cell 3; have cz_4 := hZ.cell 4; have cz_5 := hZ.cell 5; have cz_6 := hZ.cell 6; simp only [hdC, List.getElem?_cons_zero, List.getElem?_cons_succ] at cz_0 cz_1 cz_2 cz_3 cz_4 cz_5 cz_6; have cz_f := fun i => hZ.frozen i
      go_wp2
      have hk := HK2.out
      have g7 := gb_set7 wr w.heap.size (.int .i64 x.h.op) (str x.h.s) (.int .i64 x.h.vk) (.int .i64 x.h.vn) (str x.h.vs) (.slice pa x.h.p.length pc) (.slice la x.kids.len lc)
      have e1 := HQ.out
      cases e1
      exact bodyPost_ret (results_ex rfl _ (hZ.set7 _ _ _ _ _ _ _) rfl) rfl (rpe_copy hb hk.gr hk.ve (by intro k hk; exact hk.1) hk.rr g7)
    · have hs0 : (o == []) = false := by simpa using he
      have hs2 : o.isEmpty = false := by simpa using he
      rw [hs2] at hloop
      have hq : (opnd (signR l [[42], [47], [37]] st2).2).bind (fun r => loopR l [[42], [47], [37]] opnd m (binE o x r.1) r.2) = some r := hloop
      obtain ⟨⟨z, st3⟩, hy, hq⟩ := Option.bind_eq_some_iff.1 hq
      simp only at hq
      have HQ := Lib.hid hq
      have HY := Lib.hid hy
      have hL := hk.blk
      have hwL := hk.wL
      have hbL := hk.bL
      have HK2 := Lib.hid hk
      clear hloop hk hq hy hs2 he hso
      have cl_0 := hL.cell 0; have cl_1 := hL.cell 1; have cl_2 := hL.cell 2; have cl_3 := hL.cell 3; have cl_4 := hL.cell 4; have cl_5 := hL.cell 5; have cl_6 := hL.cell 6; simp only [hdC, List.getElem?_cons_zero, List.getElem?_cons_succ] at cl_0 cl_1 cl_2 cl_3 cl_4 cl_5 cl_6; have cl_f := fun i => hL.frozen i
      have hLb := hL.lt
      go_wp2_with fail
      go_region_with (first | (go_at_call 214; refine (H.out.1 _ _ _ (HK2.out.rr.drewN 1) HY.out).mono ?_; rintro e w4 ⟨g4, v, rfl, hv, h4⟩; have hk4 := HK2.out.gb hb (gb_trans (gb_drew (gb_refl wr (some b))) g4) h4; have hL4 := hk4.blk; have dl_0 := hL4.cell 0; have dl_1 := hL4.cell 1; have dl_2 := hL4.cell 2; have dl_3 := hL4.cell 3; have dl_4 := hL4.cell 4; have dl_5 := hL4.cell 5; have dl_6 := hL4.cell 6; simp only [hdC, List.getElem?_cons_zero, List.getElem?_cons_succ] at dl_0 dl_1 dl_2 dl_3 dl_4 dl_5 dl_6; have dl_f := fun i => hL4.frozen i; have hok : ∀ q, w4.heap.size ≤ q → but w w1.heap.size q := (fun q hq => by have := hL4.lt; exact ⟨by omega, by omega⟩); have hz : VE (but w w1.heap.size) w4 v z := hv.mono (fun q hq _ => by have hq : wr.heap.size ≤ q := hq; exact ⟨by omega, by omega⟩); have HZ4 := Lib.hid (And.intro hk4 (And.intro hok hz)); clear hk4 hok hz hv h4) | (go_at_call 62; refine (rbin_any o x z _ _ HZ4.out.2.1 HZ4.out.1.ve HZ4.out.2.2).mono ?_; rintro e w5 ⟨u, rfl, hu, g5⟩; obtain ⟨ua, uc, va, vc, rfl, ru, rv⟩ := hu; have hL5 := hL4.gb g5 (by simp); have el_0 := hL5.cell 0; have el_1 := hL5.cell 1; have el_2 := hL5.cell 2; have el_3 := hL5.cell 3; have el_4 := hL5.cell 4; have el_5 := hL5.cell 5; have el_6 := hL5.cell 6; simp only [hdC, List.getElem?_cons_zero, List.getElem?_cons_succ] at el_0 el_1 el_2 el_3 el_4 el_5 el_6; have el_f := fun i => hL5.frozen i; have HU := Lib.hid (And.intro g5 (And.intro ru rv)); clear g5 ru rv))
      all_goals
        have hK7 := (HZ4.out.1.gbN hb HU.out.1).store (z := binE o x z) hb HU.out.2.1 HU.out.2.2
        simp only [set7] at hK7
        clear cl_0 cl_1 cl_2 cl_3 cl_4 cl_5 cl_6 cl_f dl_0 dl_1 dl_2 dl_3 dl_4 dl_5 dl_6 dl_f el_0 el_1 el_2 el_3 el_4 el_5 el_6 el_f hL4 hL5 hL
        generalize hbe : binE o x z = bz at *
        generalize (((((((w5.setCell { block := w1.heap.size, off := 0 } (.int .i64 bz.h.op)).setCell { block := w1.heap.size, off := 1 } (.string { data := List.toArray bz.h.s })).setCell { block := w1.heap.size, off := 2 } (.int .i64 bz.h.vk)).setCell { block := w1.heap.size, off := 3 } (.int .i64 bz.h.vn)).setCell { block := w1.heap.size, off := 4 } (.string { data := List.toArray bz.h.vs })).setCell { block := w1.heap.size, off := 5 } (.slice ua bz.h.p.length uc)).setCell { block := w1.heap.size, off := 6 } (.slice va bz.kids.len vc)) = W at *
        have HS := Lib.hid (rsign_new hK7.rr [[42], [47], [37]] (by decide) (by decide) W.heap.size rfl 3 rfl)
        have HK7 := Lib.hid hK7
        have hbW := hK7.rr.lt
        clear hK7
        go_wp2_with fail
        refine HS.out.mono ?_
        rintro e w8 ⟨g8, v, rfl, rfl, h8⟩
        have HK8 := Lib.hid ((HK7.out.gbN hb (World.grownBy_alloc _ _ none)).gb hb g8 h8)
        clear HS HK7 g8 h8
        go_wp2_with fail
        go_roundg m
        case measure => omega
        case rel => exact ⟨bz, ua, uc, va, vc, st3, rfl, HK8.out, HQ.out⟩
end

end Go.Proofs.YtmcajbhljbbglaaGreatDoor

namespace Go.Proofs.YtmcajbhljbbglaaGreatDoor
open Go.RowKit
section
variable {b : Nat} {tv : Value} {l : List Tok}

set_option maxRecDepth 20000 in
set_option maxHeartbeats 2000000 in
theorem rpow_any {un : FR Ex} (hun : CR 247 b tv l un) : ∀ n, CR 214 b tv l (powR l un n) := by
  intro n
  induction n with
  | zero => intro w st r h ho; cases ho
  | succ n ih =>
  intro w st r h ho
  have hb := h.lt
  rw [powR] at ho
  obtain ⟨⟨x, st1⟩, hx, ho⟩ := Option.bind_eq_some_iff.1 ho
  simp only at ho
  have gz : w.grownBy (w.alloc (.cells zeroE.toArray 29 (0, 0))) (some b) := gb_alloc (gb_refl _ _) _
  have hz := Blk.new w zeroE 29
  have h0 := h.alloc (.cells zeroE.toArray 29 (0, 0))
  have hw0 : w.heap.size < (w.alloc (.cells zeroE.toArray 29 (0, 0))).heap.size := by simp
  have HX := Lib.hid (hun _ _ _ h0 hx)
  have H := Lib.hid (And.intro ih (And.intro ho (And.intro hz (And.intro gz hw0))))
  clear hun ho hx hz gz h0 hw0 ih
  go_enter Tryz.func214, Tryz.ntmps214
  go_wp2_with fail
  refine HX.out.mono ?_
  rintro e w1 ⟨g1, v, rfl, ⟨pa, pc, la, lc, rfl, rp, rl⟩, h1⟩
  simp only at rp rl h1 ⊢
  have HK := Lib.hid (KpR.new hb H.out.2.2.1 H.out.2.2.2.1 H.out.2.2.2.2 g1 rp rl h1)
  have hb1 := h1.lt
  clear rp rl h1 HX g1
  have HT := Lib.hid (rtake_any HK.out.rr [94])
  have hloop := H.out.2.1
  cases hs : hereR l [94] st1 with
  | false =>
    rw [hs] at HT hloop
    have hq : some (x, takeR l [94] st1) = some r := hloop
    cases hq
    clear hloop hs
    go_wp2_with fail
    refine HT.out.mono ?_
    rintro e w2 ⟨g2, v, rfl, rfl, h2⟩
    have HK2 := Lib.hid (HK.out.gb hb g2 h2)
    clear g2 h2 HK
    have hk2 := HK2.out
    have hL := hk2.blk
    have hZ := hk2.zero
    have hwL := hk2.wL
    clear hk2
    have cl_0 := hL.cell 0; have cl_1 := hL.cell 1; have cl_2 := hL.cell 2; have cl_3 := hL.cell 3; have cl_4 := hL.cell 4; have cl_5 := hL.cell 5; have cl_6 := hL.cell 6; simp only [hdC, List.getElem?_cons_zero, List.getElem?_cons_succ] at cl_0 cl_1 cl_2 cl_3 cl_4 cl_5 cl_6; have cl_f := fun i => hL.frozen i
    have cz_0 := hZ.cell 0; have cz_1 := hZ.cell 1; have cz_2 := hZ.cell 2; have cz_3 := hZ.cell 3; have cz_4 := hZ.cell 4; have cz_5 := hZ.cell 5; have cz_6 := hZ.cell 6; simp only [hdC, List.getElem?_cons_zero, List.getElem?_cons_succ] at cz_0 cz_1 cz_2 cz_3 cz_4 cz_5 cz_6; have cz_f := fun i => hZ.frozen i
    go_wp2
    have hk := HK2.out
    have g7 := gb_set7 w2 w.heap.size (.int .i64 x.h.op) (str x.h.s) (.int .i64 x.h.vk) (.int .i64 x.h.vn) (str x.h.vs) (.slice pa x.h.p.length pc) (.slice la x.kids.len lc)
    exact bodyPost_ret (results_ex rfl _ (hZ.set7 _ _ _ _ _ _ _) rfl) rfl (rpe_copy hb hk.gr hk.ve (by intro k hk; exact hk.1) hk.rr g7)
  | true =>
    rw [hs] at HT hloop
    have hq : (powR l un n (takeR l [94] st1)).bind (fun q => some (binE [94] x q.1, q.2)) = some r := hloop
    obtain ⟨⟨z, st3⟩, hy, hq⟩ := Option.bind_eq_some_iff.1 hq
    simp only at hq
    cases hq
    have HY := Lib.hid hy
    clear hloop hs hy
    go_wp2_with fail
    refine HT.out.mono ?_
    rintro e w2 ⟨g2, v, rfl, rfl, h2⟩
    have HK2 := Lib.hid (HK.out.gb hb g2 h2)
    clear g2 h2 HK
    have hk2 := HK2.out
    have hL := hk2.blk
    have hZ := hk2.zero
    have hwL := hk2.wL
    have hbL := hk2.bL
    clear hk2
    have cl_0 := hL.cell 0; have cl_1 := hL.cell 1; have cl_2 := hL.cell 2; have cl_3 := hL.cell 3; have cl_4 := hL.cell 4; have cl_5 := hL.cell 5; have cl_6 := hL.cell 6; simp only [hdC, List.getElem?_cons_zero, List.getElem?_cons_succ] at cl_0 cl_1 cl_2 cl_3 cl_4 cl_5 cl_6; have cl_f := fun i => hL.frozen i
    have cz_0 := hZ.cell 0; have cz_1 := hZ.cell 1; have cz_2 := hZ.cell 2; have cz_3 := hZ.cell 3; have cz_4 := hZ.cell 4; have cz_5 := hZ.cell 5; have cz_6 := hZ.cell 6; simp only [hdC, List.getElem?_cons_zero, List.getElem?_cons_succ] at cz_0 cz_1 cz_2 cz_3 cz_4 cz_5 cz_6; have cz_f := fun i => hZ.frozen i
    have hLb := hL.lt
    go_wp2_with fail
    go_region_with (first | (go_at_call 214; refine (H.out.1 _ _ _ (HK2.out.rr.drewN 1) HY.out).mono ?_; rintro e w4 ⟨g4, v, rfl, hv, h4⟩; have hk4 := HK2.out.gb hb (gb_trans (gb_drew (gb_refl w2 (some b))) g4) h4; have hL4 := hk4.blk; have hZ4 := hk4.zero; have dl_0 := hL4.cell 0; have dl_1 := hL4.cell 1; have dl_2 := hL4.cell 2; have dl_3 := hL4.cell 3; have dl_4 := hL4.cell 4; have dl_5 := hL4.cell 5; have dl_6 := hL4.cell 6; simp only [hdC, List.getElem?_cons_zero, List.getElem?_cons_succ] at dl_0 dl_1 dl_2 dl_3 dl_4 dl_5 dl_6; have dl_f := fun i => hL4.frozen i; have dz_0 := hZ4.cell 0; have dz_1 := hZ4.cell 1; have dz_2 := hZ4.cell 2; have dz_3 := hZ4.cell 3; have dz_4 := hZ4.cell 4; have dz_5 := hZ4.cell 5; have dz_6 := hZ4.cell 6; simp only [hdC, List.getElem?_cons_zero, List.getElem?_cons_succ] at dz_0 dz_1 dz_2 dz_3 dz_4 dz_5 dz_6; have dz_f := fun i => hZ4.frozen i; have hok : ∀ q, w4.heap.size ≤ q → but w w1.heap.size q := (fun q hq => by have := hL4.lt; exact ⟨by omega, by omega⟩); have hz : VE (but w w1.heap.size) w4 v z := hv.mono (fun q hq _ => by have hq : w2.heap.size ≤ q := hq; exact ⟨by omega, by omega⟩); have HZ4 := Lib.hid (And.intro hk4 (And.intro hok hz)); clear hk4 hok hz hv h4) | (go_at_call 62; refine (rbin_any [94] x z _ _ HZ4.out.2.1 HZ4.out.1.ve HZ4.out.2.2).mono ?_; rintro e w5 ⟨u, rfl, hu, g5⟩; obtain ⟨ua, uc, va, vc, rfl, ru, rv⟩ := hu; have hZ5 := hZ4.gb g5 (by simp); have ez_0 := hZ5.cell 0; have ez_1 := hZ5.cell 1; have ez_2 := hZ5.cell 2; have ez_3 := hZ5.cell 3; have ez_4 := hZ5.cell 4; have ez_5 := hZ5.cell 5; have ez_6 := hZ5.cell 6; simp only [hdC, List.getElem?_cons_zero, List.getElem?_cons_succ] at ez_0 ez_1 ez_2 ez_3 ez_4 ez_5 ez_6; have ez_f := fun i => hZ5.frozen i; have HU := Lib.hid (And.intro g5 (And.intro ru rv)); clear g5 ru rv))
    all_goals
      generalize hbe : binE [94] x z = bz at *
      have hk5 := HZ4.out.1.gbN hb HU.out.1
      have HK5 := Lib.hid hk5
      clear hk5
      go_wp2
      have hk5 := HK5.out
      have g7 := gb_set7 w5 w.heap.size (.int .i64 bz.h.op) (str bz.h.s) (.int .i64 bz.h.vk) (.int .i64 bz.h.vn) (str bz.h.vs) (.slice ua bz.h.p.length uc) (.slice va bz.kids.len vc)
      exact bodyPost_ret (results_ex rfl _ (hZ5.set7 _ _ _ _ _ _ _) rfl) rfl (rpe_copy hb hk5.gr ⟨_, _, _, _, rfl, HU.out.2.1, HU.out.2.2⟩ (by intro k hk; exact hk.1) hk5.rr g7)

theorem signOf_in {L : List Bs} {st : RS} (h : signOf l L st ≠ []) : signOf l L st ∈ L := by
  unfold signOf at *
  cases hs : st.2 with
  | true => rw [hs] at h; simp at h
  | false =>
    rw [hs] at h
    simp only [Bool.false_eq_true, if_false] at h ⊢
    cases hf : L.find? (isSignM (tokAt l st.1)) with
    | none => rw [hf] at h; simp at h
    | some t => exact List.mem_of_find?_eq_some hf

set_option maxRecDepth 20000 in
set_option maxHeartbeats 4000000 in
theorem rnot_any {sm : FR Ex} (hsum : CR 127 b tv l sm) : ∀ n, CR 93 b tv l (notR l sm n) := by
  intro n
  induction n with
  | zero => intro w st r h ho; cases ho
  | succ n ih =>
  intro w st r h ho
  have hb := h.lt
  rw [notR] at ho
  have gz : w.grownBy (w.alloc (.cells zeroE.toArray 29 (0, 0))) (some b) := gb_alloc (gb_refl _ _) _
  have hz := Blk.new w zeroE 29
  have h0 := h.alloc (.cells zeroE.toArray 29 (0, 0))
  have HS := Lib.hid (rsign_new h0 [[46, 78, 79, 84, 46], [33]] (by decide) (by decide) (w.heap.size + 1) (by simp) 2 rfl)
  have H := Lib.hid (And.intro ih (And.intro hsum (And.intro hz gz)))
  have HO := Lib.hid ho
  clear hsum ho hz gz h0 ih
  go_enter Tryz.func93, Tryz.ntmps93
  go_wp2_with fail
  refine HS.out.mono ?_
  rintro e w0 ⟨gs, v, rfl, rfl, h0⟩
  have hB := (H.out.2.2.1.alloc (.cells ([[46, 78, 79, 84, 46], [33]].map str).toArray 9 (0, 0))).gb gs (by simp; omega)
  have g0 := gb_trans (gb_alloc H.out.2.2.2 (.cells ([[46, 78, 79, 84, 46], [33]].map str).toArray 9 (0, 0))) gs
  have hw0 : w.heap.size < w0.heap.size := hB.lt
  have ho := HO.out
  rw [show notL = [[46, 78, 79, 84, 46], [33]] from rfl] at ho
  clear HS gs HO
  by_cases he : signOf l [[46, 78, 79, 84, 46], [33]] st = []
  · rw [if_pos (by rw [he]; rfl)] at ho
    obtain ⟨⟨x, st1⟩, hx, ho⟩ := Option.bind_eq_some_iff.1 ho
    simp only at ho
    have HE := Lib.hid he
    rw [show (signR l [[46, 78, 79, 84, 46], [33]] st).1 = [] from he]
    have HX := Lib.hid (H.out.2.1 _ _ _ h0 hx)
    have HO := Lib.hid ho
    have HB := Lib.hid (And.intro hB g0)
    clear he hx ho h0 hB g0
    go_wp2_with fail
    refine HX.out.mono ?_
    rintro e w1 ⟨g1, v, rfl, ⟨pa, pc, la, lc, rfl, rp, rl⟩, h1⟩
    simp only at rp rl h1 ⊢
    have hK := KpR.new hb HB.out.1 HB.out.2 hw0 g1 rp rl h1
    have hb1 := h1.lt
    have HS := Lib.hid (rsign_new hK.rr [[61], [61, 61], [60, 62], [35], [33, 61], [60], [62], [60, 61], [62, 61], [36]] (by decide) (by decide) (w1.heap.size + 1) (by simp) 10 rfl)
    have HK := Lib.hid hK
    clear rp rl h1 HX g1 hK HB
    go_wp2_with fail
    refine HS.out.mono ?_
    rintro e w2 ⟨g2, v, rfl, rfl, h2⟩
    have HK2 := Lib.hid ((HK.out.gbN hb (World.grownBy_alloc _ _ none)).gb hb g2 h2)
    have ho := HO.out
    rw [show cmpL = [[61], [61, 61], [60, 62], [35], [33, 61], [60], [62], [60, 61], [62, 61], [36]] from rfl] at ho
    clear HS HK g2 h2 HO
    by_cases he2 : signOf l [[61], [61, 61], [60, 62], [35], [33, 61], [60], [62], [60, 61], [62, 61], [36]] st1 = []
    · rw [if_pos (by rw [he2]; rfl)] at ho
      cases ho
      rw [show (signR l [[61], [61, 61], [60, 62], [35], [33, 61], [60], [62], [60, 61], [62, 61], [36]] st1).1 = [] from he2]
      clear he2
      have hk2 := HK2.out
      have hL := hk2.blk
      have hZ := hk2.zero
      have hwL := hk2.wL
      clear hk2
      have cl_0 := hL.cell 0; have cl_1 := hL.cell 1; have cl_2 := hL.cell 2; have cl_3 := hL.cell 3; have cl_4 := hL.cell 4; have cl_5 := hL.cell 5; have cl_6 := hL.cell 6; simp only [hdC, List.getElem?_cons_zero, List.getElem?_cons_succ] at cl_0 cl_1 cl_2 cl_3 cl_4 cl_5 cl_6; have cl_f := fun i => hL.frozen i
      have cz_0 := hZ.cell 0; have cz_1 := hZ.cell 1; have cz_2 := hZ.cell 2; have cz_3 := hZ.cell 3; have cz_4 := hZ.cell 4; have cz_5 := hZ.cell 5; have cz_6 := hZ.cell 6; simp only [hdC, List.getElem?_cons_zero, List.getElem?_cons_succ] at cz_0 cz_1 cz_2 cz_3 cz_4 cz_5 cz_6; have cz_f := fun i => hZ.frozen i
      go_wp2
      have hk := HK2.out
      have g7 := gb_set7 w2 w.heap.size (.int .i64 x.h.op) (str x.h.s) (.int .i64 x.h.vk) (.int .i64 x.h.vn) (str x.h.vs) (.slice pa x.h.p.length pc) (.slice la x.kids.len lc)
      exact bodyPost_ret (results_ex rfl _ (hZ.set7 _ _ _ _ _ _ _) rfl) rfl (rpe_copy hb hk.gr hk.ve (by intro k hk; exact hk.1) hk.rr g7)
    · have hin := signOf_in he2
      rw [if_neg (by simpa using he2)] at ho
      obtain ⟨⟨z, st3⟩, hy, hq⟩ := Option.bind_eq_some_iff.1 ho
      simp only at hq
      clear ho
      have HY := Lib.hid hy
      have es : (signR l [[61], [61, 61], [60, 62], [35], [33, 61], [60], [62], [60, 61], [62, 61], [36]] st1).1 = signOf l [[61], [61, 61], [60, 62], [35], [33, 61], [60], [62], [60, 61], [62, 61], [36]] st1 := rfl
      rw [es]
      clear hy he2 es
      generalize (signR l [[61], [61, 61], [60, 62], [35], [33, 61], [60], [62], [60, 61], [62, 61], [36]] st1).2 = st2 at *
      generalize signOf l [[61], [61, 61], [60, 62], [35], [33, 61], [60], [62], [60, 61], [62, 61], [36]] st1 = o at *
      have hc : (o = [35] ∧ cmpS o = [60, 62]) ∨ (o = [33, 61] ∧ cmpS o = [60, 62]) ∨ ((o == [35]) = false ∧ (o == [33, 61]) = false ∧ (o == []) = false ∧ cmpS o = o) := by
        simp only [List.mem_cons, List.not_mem_nil, or_false] at hin
        rcases hin with rfl | rfl | rfl | rfl | rfl | rfl | rfl | rfl | rfl | rfl <;> decide
      clear hin
      rcases hc with ⟨rfl, hcs⟩ | ⟨rfl, hcs⟩ | ⟨n1, n2, n3, hcs⟩
      · rw [hcs] at hq
        cases hq
        clear hcs
        have hk2 := HK2.out
        have hL := hk2.blk
        have hZ := hk2.zero
        have hwL := hk2.wL
        have hbL := hk2.bL
        clear hk2
        have cl_0 := hL.cell 0; have cl_1 := hL.cell 1; have cl_2 := hL.cell 2; have cl_3 := hL.cell 3; have cl_4 := hL.cell 4; have cl_5 := hL.cell 5; have cl_6 := hL.cell 6; simp only [hdC, List.getElem?_cons_zero, List.getElem?_cons_succ] at cl_0 cl_1 cl_2 cl_3 cl_4 cl_5 cl_6; have cl_f := fun i => hL.frozen i
        have cz_0 := hZ.cell 0; have cz_1 := hZ.cell 1; have cz_2 := hZ.cell 2; have cz_3 := hZ.cell 3; have cz_4 := hZ.cell 4; have cz_5 := hZ.cell 5; have cz_6 := hZ.cell 6; simp only [hdC, List.getElem?_cons_zero, List.getElem?_cons_succ] at cz_0 cz_1 cz_2 cz_3 cz_4 cz_5 cz_6; have cz_f := fun i => hZ.frozen i
        have hLb := hL.lt
        go_wp2_with fail
        go_region_with (first | (go_at_call 127; refine (H.out.2.1 _ _ _ (HK2.out.rr.drewN 1) HY.out).mono ?_; rintro e w4 ⟨g4, v, rfl, hv, h4⟩; have hk4 := HK2.out.gb hb (gb_trans (gb_drew (gb_refl w2 (some b))) g4) h4; have hL4 := hk4.blk; have hZ4 := hk4.zero; have dl_0 := hL4.cell 0; have dl_1 := hL4.cell 1; have dl_2 := hL4.cell 2; have dl_3 := hL4.cell 3; have dl_4 := hL4.cell 4; have dl_5 := hL4.cell 5; have dl_6 := hL4.cell 6; simp only [hdC, List.getElem?_cons_zero, List.getElem?_cons_succ] at dl_0 dl_1 dl_2 dl_3 dl_4 dl_5 dl_6; have dl_f := fun i => hL4.frozen i; have dz_0 := hZ4.cell 0; have dz_1 := hZ4.cell 1; have dz_2 := hZ4.cell 2; have dz_3 := hZ4.cell 3; have dz_4 := hZ4.cell 4; have dz_5 := hZ4.cell 5; have dz_6 := hZ4.cell 6; simp only [hdC, List.getElem?_cons_zero, List.getElem?_cons_succ] at dz_0 dz_1 dz_2 dz_3 dz_4 dz_5 dz_6; have dz_f := fun i => hZ4.frozen i; have hok : ∀ q, w4.heap.size ≤ q → but w w1.heap.size q := (fun q hq => by have := hL4.lt; exact ⟨by omega, by omega⟩); have hz : VE (but w w1.heap.size) w4 v z := hv.mono (fun q hq _ => by have hq : w2.heap.size ≤ q := hq; exact ⟨by omega, by omega⟩); have HZ4 := Lib.hid (And.intro hk4 (And.intro hok hz)); clear hk4 hok hz hv h4) | (go_at_call 62; refine (rbin_any [60, 62] x z _ _ HZ4.out.2.1 HZ4.out.1.ve HZ4.out.2.2).mono ?_; rintro e w5 ⟨u, rfl, hu, g5⟩; obtain ⟨ua, uc, va, vc, rfl, ru, rv⟩ := hu; have hZ5 := hZ4.gb g5 (by simp); have ez_0 := hZ5.cell 0; have ez_1 := hZ5.cell 1; have ez_2 := hZ5.cell 2; have ez_3 := hZ5.cell 3; have ez_4 := hZ5.cell 4; have ez_5 := hZ5.cell 5; have ez_6 := hZ5.cell 6; simp only [hdC, List.getElem?_cons_zero, List.getElem?_cons_succ] at ez_0 ez_1 ez_2 ez_3 ez_4 ez_5 ez_6; have ez_f := fun i => hZ5.frozen i; have HU := Lib.hid (And.intro g5 (And.intro ru rv)); clear g5 ru rv))
        all_goals
          generalize hbe : binE [60, 62] x z = bz at *
          have hk5 := HZ4.out.1.gbN hb HU.out.1
          have HK5 := Lib.hid hk5
          clear hk5
          go_wp2
          have hk5 := HK5.out
          have g7 := gb_set7 w5 w.heap.size (.int .i64 bz.h.op) (str bz.h.s) (.int .i64 bz.h.vk) (.int .i64 bz.h.vn) (str bz.h.vs) (.slice ua bz.h.p.length uc) (.slice va bz.kids.len vc)
          exact bodyPost_ret (results_ex rfl _ (hZ5.set7 _ _ _ _ _ _ _) rfl) rfl (rpe_copy hb hk5.gr ⟨_, _, _, _, rfl, HU.out.2.1, HU.out.2.2⟩ (by intro k hk; exact hk.1) hk5.rr g7)
      · rw [hcs] at hq
        cases hq
        clear hcs
        have hk2 := HK2.out
        have hL := hk2.blk
        have hZ := hk2.zero
        have hwL := hk2.wL
        have hbL := hk2.bL
        clear hk2
        have cl_0 := hL.cell 0; have cl_1 := hL.cell 1; have cl_2 := hL.cell 2; have cl_3 := hL.cell 3; have cl_4 := hL.cell 4; have cl_5 := hL.cell 5; have cl_6 := hL.cell 6; simp only [hdC, List.getElem?_cons_zero, List.getElem?_cons_succ] at cl_0 cl_1 cl_2 cl_3 cl_4 cl_5 cl_6; have cl_f := fun i => hL.frozen i
        have cz_0 := hZ.cell 0; have cz_1 := hZ.cell 1; have cz_2 := hZ.cell 2; have cz_3 := hZ.cell 3; have cz_4 := hZ.cell 4; have cz_5 := hZ.cell 5; have cz_6 := hZ.cell 6; simp only [hdC, List.getElem?_cons_zero, List.getElem?_cons_succ] at cz_0 cz_1 cz_2 cz_3 cz_4 cz_5 cz_6; have cz_f := fun i => hZ.frozen i
        have hLb := hL.lt
        go_wp2_with fail
        go_region_with (first | (go_at_call 127; refine (H.out.2.1 _ _ _ (HK2.out.rr.drewN 1) HY.out).mono ?_; rintro e w4 ⟨g4, v, rfl, hv, h4⟩; have hk4 := HK2.out.gb hb (gb_trans (gb_drew (gb_refl w2 (some b))) g4) h4; have hL4 := hk4.blk; have hZ4 := hk4.zero; have dl_0 := hL4.cell 0; have dl_1 := hL4.cell 1; have dl_2 := hL4.cell 2; have dl_3 := hL4.cell 3; have dl_4 := hL4.cell 4; have dl_5 := hL4.cell 5; have dl_6 := hL4.cell 6; simp only [hdC, List.getElem?_cons_zero, List.getElem?_cons_succ] at dl_0 dl_1 dl_2 dl_3 dl_4 dl_5 dl_6; have dl_f := fun i => hL4.frozen i; have dz_0 := hZ4.cell 0; have dz_1 := hZ4.cell 1; have dz_2 := hZ4.cell 2; have dz_3 := hZ4.cell 3; have dz_4 := hZ4.cell 4; have dz_5 := hZ4.cell 5; have dz_6 := hZ4.cell 6; simp only [hdC, List.getElem?_cons_zero, List.getElem?_cons_succ] at dz_0 dz_1 dz_2 dz_3 dz_4 dz_5 dz_6; have dz_f := fun i => hZ4.frozen i; have hok : ∀ q, w4.heap.size ≤ q → but w w1.heap.size q := (fun q hq => by have := hL4.lt; exact ⟨by omega, by omega⟩); have hz : VE (but w w1.heap.size) w4 v z := hv.mono (fun q hq _ => by have hq : w2.heap.size ≤ q := hq; exact ⟨by omega, by omega⟩); have HZ4 := Lib.hid (And.intro hk4 (And.intro hok hz)); clear hk4 hok hz hv h4) | (go_at_call 62; refine (rbin_any [60, 62] x z _ _ HZ4.out.2.1 HZ4.out.1.ve HZ4.out.2.2).mono ?_; rintro e w5 ⟨u, rfl, hu, g5⟩; obtain ⟨ua, uc, va, vc, rfl, ru, rv⟩ := hu; have hZ5 := hZ4.gb g5 (by simp); have ez_0 := hZ5.cell 0; have ez_1 := hZ5.cell 1; have ez_2 := hZ5.cell 2; have ez_3 := hZ5.cell 3; have ez_4 := hZ5.cell 4; have ez_5 := hZ5.cell 5; have ez_6 := hZ5.cell 6; simp only [hdC, List.getElem?_cons_zero, List.getElem?_cons_succ] at ez_0 ez_1 ez_2 ez_3 ez_4 ez_5 ez_6; have ez_f := fun i => hZ5.frozen i; have HU := Lib.hid (And.intro g5 (And.intro ru rv)); clear g5 ru rv))
        all_goals
          generalize hbe : binE [60, 62] x z = bz at *
          have hk5 := HZ4.out.1.gbN hb HU.out.1
          have HK5 := Lib.hid hk5
          clear hk5
          go_wp2
          have hk5 := HK5.out
          have g7 := gb_set7 w5 w.heap.size (.int .i64 bz.h.op) (str bz.h.s) (.int .i64 bz.h.vk) (.int .i64 bz.h.vn) (str bz.h.vs) (.slice ua bz.h.p.length uc) (.slice va bz.kids.len vc)
          exact bodyPost_ret (results_ex rfl _ (hZ5.set7 _ _ _ _ _ _ _) rfl) rfl (rpe_copy hb hk5.gr ⟨_, _, _, _, rfl, HU.out.2.1, HU.out.2.2⟩ (by intro k hk; exact hk.1) hk5.rr g7)
      · rw [hcs] at hq
        cases hq
        clear hcs
        have hk2 := HK2.out
        have hL := hk2.blk
        have hZ := hk2.zero
        have hwL := hk2.wL
        have hbL := hk2.bL
        clear hk2
        have cl_0 := hL.cell 0; have cl_1 := hL.cell 1; have cl_2 := hL.cell 2; have cl_3 := hL.cell 3; have cl_4 := hL.cell 4; have cl_5 := hL.cell 5; have cl_6 := hL.cell 6; simp only [hdC, List.getElem?_cons_zero, List.getElem?_cons_succ] at cl_0 cl_1 cl_2 cl_3 cl_4 cl_5 cl_6; have cl_f := fun i => hL.frozen i
        have cz_0 := hZ.cell 0; have cz_1 := hZ.cell 1; have cz_2 := hZ.cell 2; have cz_3 := hZ.cell 3; have cz_4 := hZ.cell 4; have cz_5 := hZ.cell 5; have cz_6 := hZ.cell 6; simp only [hdC, List.getElem?_cons_zero, List.getElem?_cons_succ] at cz_0 cz_1 cz_2 cz_3 cz_4 cz_5 cz_6; have cz_f := fun i => hZ.frozen i
        have hLb := hL.lt
        go_wp2_with fail
        go_region_with (first | (go_at_call 127; refine (H.out.2.1 _ _ _ (HK2.out.rr.drewN 1) HY.out).mono ?_; rintro e w4 ⟨g4, v, rfl, hv, h4⟩; have hk4 := HK2.out.gb hb (gb_trans (gb_drew (gb_refl w2 (some b))) g4) h4; have hL4 := hk4.blk; have hZ4 := hk4.zero; have dl_0 := hL4.cell 0; have dl_1 := hL4.cell 1; have dl_2 := hL4.cell 2; have dl_3 := hL4.cell 3; have dl_4 := hL4.cell 4; have dl_5 := hL4.cell 5; have dl_6 := hL4.cell 6; simp only [hdC, List.getElem?_cons_zero, List.getElem?_cons_succ] at dl_0 dl_1 dl_2 dl_3 dl_4 dl_5 dl_6; have dl_f := fun i => hL4.frozen i; have dz_0 := hZ4.cell 0; have dz_1 := hZ4.cell 1; have dz_2 := hZ4.cell 2; have dz_3 := hZ4.cell 3; have dz_4 := hZ4.cell 4; have dz_5 := hZ4.cell 5; have dz_6 := hZ4.cell 6; simp only [hdC, List.getElem?_cons_zero, List.getElem?_cons_succ] at dz_0 dz_1 dz_2 dz_3 dz_4 dz_5 dz_6; have dz_f := fun i => hZ4.frozen i; have hok : ∀ q, w4.heap.size ≤ q → but w w1.heap.size q := (fun q hq => by have := hL4.lt; exact ⟨by omega, by omega⟩); have hz : VE (but w w1.heap.size) w4 v z := hv.mono (fun q hq _ => by have hq : w2.heap.size ≤ q := hq; exact ⟨by omega, by omega⟩); have HZ4 := Lib.hid (And.intro hk4 (And.intro hok hz)); clear hk4 hok hz hv h4) | (go_at_call 62; refine (rbin_any o x z _ _ HZ4.out.2.1 HZ4.out.1.ve HZ4.out.2.2).mono ?_; rintro e w5 ⟨u, rfl, hu, g5⟩; obtain ⟨ua, uc, va, vc, rfl, ru, rv⟩ := hu; have hZ5 := hZ4.gb g5 (by simp); have ez_0 := hZ5.cell 0; have ez_1 := hZ5.cell 1; have ez_2 := hZ5.cell 2; have ez_3 := hZ5.cell 3; have ez_4 := hZ5.cell 4; have ez_5 := hZ5.cell 5; have ez_6 := hZ5.cell 6; simp only [hdC, List.getElem?_cons_zero, List.getElem?_cons_succ] at ez_0 ez_1 ez_2 ez_3 ez_4 ez_5 ez_6; have ez_f := fun i => hZ5.frozen i; have HU := Lib.hid (And.intro g5 (And.intro ru rv)); clear g5 ru rv))
        all_goals
          generalize hbe : binE o x z = bz at *
          have hk5 := HZ4.out.1.gbN hb HU.out.1
          have HK5 := Lib.hid hk5
          clear hk5
          go_wp2
          have hk5 := HK5.out
          have g7 := gb_set7 w5 w.heap.size (.int .i64 bz.h.op) (str bz.h.s) (.int .i64 bz.h.vk) (.int .i64 bz.h.vn) (str bz.h.vs) (.slice ua bz.h.p.length uc) (.slice va bz.kids.len vc)
          exact bodyPost_ret (results_ex rfl _ (hZ5.set7 _ _ _ _ _ _ _) rfl) rfl (rpe_copy hb hk5.gr ⟨_, _, _, _, rfl, HU.out.2.1, HU.out.2.2⟩ (by intro k hk; exact hk.1) hk5.rr g7)
  · rw [if_neg (by simpa using he)] at ho
    obtain ⟨⟨x, st1⟩, hx, ho⟩ := Option.bind_eq_some_iff.1 ho
    simp only at ho
    cases ho
    have es : (signR l [[46, 78, 79, 84, 46], [33]] st).1 = signOf l [[46, 78, 79, 84, 46], [33]] st := rfl
    rw [es]
    have hs0 : (signOf l [[46, 78, 79, 84, 46], [33]] st == []) = false := by simpa using he
    have hs1 : (signOf l [[46, 78, 79, 84, 46], [33]] st != []) = true := by simpa using he
    have HX := Lib.hid (H.out.1 _ _ _ h0 hx)
    clear he es hx h0
    generalize signOf l [[46, 78, 79, 84, 46], [33]] st = o at *
    go_wp2_with fail
    refine (HX.out).mono ?_
    rintro e w1 ⟨g1, v, rfl, ⟨pa, pc, la, lc, rfl, rp, rl⟩, h1⟩
    simp only at rp rl h1 ⊢
    have hs1 := g1.size
    have hb1 := h1.lt
    have hlt1 : w.heap.size < w1.heap.size := by omega
    have hZ := hB.gb g1 (by simp; omega)
    have H2 := Lib.hid (And.intro rp (And.intro rl (And.intro h1 (gb_trans g0 g1))))
    clear rp rl hB h1 g1 g0
    have cz_0 := hZ.cell 0; have cz_1 := hZ.cell 1; have cz_2 := hZ.cell 2; have cz_3 := hZ.cell 3; have cz_4 := hZ.cell 4; have cz_5 := hZ.cell 5; have cz_6 := hZ.cell 6; simp only [hdC, List.getElem?_cons_zero, List.getElem?_cons_succ] at cz_0 cz_1 cz_2 cz_3 cz_4 cz_5 cz_6; have cz_f := fun i => hZ.frozen i
    go_wp2
    obtain ⟨rp, rl, h1, gg⟩ := H2.out
    have g7 := gb_set7 w1 w.heap.size (.int .i64 4) (str [46, 78, 79, 84, 46]) (.int .i64 0) (.int .i64 0) (str []) (.slice none 0 0) (.slice (some ⟨w1.heap.size, 0, none⟩) 1 1)
    have hW := hZ.set7 (.int .i64 4) (str [46, 78, 79, 84, 46]) (.int .i64 0) (.int .i64 0) (str []) (.slice none 0 0) (.slice (some ⟨w1.heap.size, 0, none⟩) 1 1)
    have hsz : (set7 w1 w.heap.size (.int .i64 4) (str [46, 78, 79, 84, 46]) (.int .i64 0) (.int .i64 0) (str []) (.slice none 0 0) (.slice (some ⟨w1.heap.size, 0, none⟩) 1 1)).heap.size = w1.heap.size := by simp [set7]
    simp only [set7] at hW g7 hsz
    generalize (((((((w1.setCell { block := w.heap.size, off := 0 } (.int .i64 4)).setCell { block := w.heap.size, off := 1 } (str [46, 78, 79, 84, 46])).setCell { block := w.heap.size, off := 2 } (.int .i64 0)).setCell { block := w.heap.size, off := 3 } (.int .i64 0)).setCell { block := w.heap.size, off := 4 } (str [])).setCell { block := w.heap.size, off := 5 } (.slice none 0 0)).setCell { block := w.heap.size, off := 6 } (.slice (some ⟨w1.heap.size, 0, none⟩) 1 1)) = W at *
    exact bodyPost_ret (results_ex (hd := hd0 4 [46, 78, 79, 84, 46]) (pv := .slice none 0 0) (lv := .slice (some ⟨w1.heap.size, 0, none⟩) 1 1) rfl _ (Blk.alloc hW (Obj.cells #[Value.int IntKind.i64 x.h.op, str x.h.s, Value.int IntKind.i64 x.h.vk, Value.int IntKind.i64 x.h.vn, str x.h.vs, Value.slice pa x.h.p.length pc, Value.slice la x.kids.len lc] 29)) rfl) rfl (rpe_one (op := 4) (s := [46, 78, 79, 84, 46]) hb gg rp rl (by intro q hq; have : (w0).heap.size ≤ q := hq; omega) h1 g7 hsz)
end

end Go.Proofs.YtmcajbhljbbglaaGreatDoor
