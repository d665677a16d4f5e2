/-
  The reference's reader: unary.
  The reference's reader: variable, macro, named.
  The reference's reader: named, braces.
-/
import Derived.Test.YtmcajbhljbbglaaGreatDoorSr11
set_option linter.all false
set_option linter.unusedVariables false
set_option linter.unusedSimpArgs false
set_option linter.unnecessarySimpa false
set_option linter.constructorNameAsVariable false
set_option linter.deprecated false

namespace Go.Proofs.YtmcajbhljbbglaaGreatDoor
open Go.RowKit
section
variable {b : Nat} {tv : Value} {l : List Tok}

set_option maxRecDepth 20000 in
set_option maxHeartbeats 2000000 in
theorem runary_any {E pr : FR Ex} (hE : CR 28 b tv l E) (hP : CR 277 b tv l pr) (N : Nat) : ∀ n, CR 247 b tv l (unaryR l E pr N n) := by
  intro n
  induction n with
  | zero => intro w st r h ho; cases ho
  | succ n ih =>
  intro w st r h ho
  have hb := h.lt
  rw [unaryR] at ho
  have gz : w.grownBy (w.alloc (.cells zeroE.toArray 29 (0, 0))) (some b) := gb_alloc (gb_refl _ _) _
  have hz := Blk.new w zeroE 29
  have h0 := h.alloc (.cells zeroE.toArray 29 (0, 0))
  have HT := Lib.hid (rtake_any h0 [45])
  cases hs : hereR l [45] st with
  | true =>
    rw [hs] at HT ho
    have hq : (unaryR l E pr N n (takeR l [45] st)).bind (fun r => some (unE [45] r.1, r.2)) = some r := ho
    obtain ⟨⟨x, st1⟩, hx, hq⟩ := Option.bind_eq_some_iff.1 hq
    simp only at hq
    cases hq
    have H := Lib.hid (And.intro ih (And.intro hx (And.intro hz gz)))
    clear ho hs hE hP ih hx hz gz h0
    go_enter Tryz.func247, Tryz.ntmps247
    go_wp2_with fail
    refine HT.out.mono ?_
    rintro e w0 ⟨gs, v, rfl, rfl, h0⟩
    have hB := H.out.2.2.1.gb gs (by simp; omega)
    have g0 := gb_trans H.out.2.2.2 gs
    have hw0 : w.heap.size < w0.heap.size := hB.lt
    have HX := Lib.hid (H.out.1 _ _ _ h0 H.out.2.1)
    clear gs HT h0
    go_wp2_with fail
    refine (HX.out).mono ?_
    rintro e w1 ⟨g1, v, rfl, ⟨pa, pc, la, lc, rfl, rp, rl⟩, h1⟩
    simp only at rp rl h1 ⊢
    have hs1 := g1.size
    have hb1 := h1.lt
    have hlt1 : w.heap.size < w1.heap.size := by omega
    have hZ := hB.gb g1 (by simp; omega)
    have H2 := Lib.hid (And.intro rp (And.intro rl (And.intro h1 (gb_trans g0 g1))))
    clear rp rl hB h1 g1 g0
    have cz_0 := hZ.cell 0; have cz_1 := hZ.cell 1; have cz_2 := hZ.cell 2; have cz_3 := hZ.cell 3; have cz_4 := hZ.cell 4; have cz_5 := hZ.cell 5; have cz_6 := hZ.cell 6; simp only [hdC, List.getElem?_cons_zero, List.getElem?_cons_succ] at cz_0 cz_1 cz_2 cz_3 cz_4 cz_5 cz_6; have cz_f := fun i => hZ.frozen i
    go_wp2
    obtain ⟨rp, rl, h1, gg⟩ := H2.out
    have g7 := gb_set7 w1 w.heap.size (.int .i64 4) (str [45]) (.int .i64 0) (.int .i64 0) (str []) (.slice none 0 0) (.slice (some ⟨w1.heap.size, 0, none⟩) 1 1)
    have hW := hZ.set7 (.int .i64 4) (str [45]) (.int .i64 0) (.int .i64 0) (str []) (.slice none 0 0) (.slice (some ⟨w1.heap.size, 0, none⟩) 1 1)
    have hsz : (set7 w1 w.heap.size (.int .i64 4) (str [45]) (.int .i64 0) (.int .i64 0) (str []) (.slice none 0 0) (.slice (some ⟨w1.heap.size, 0, none⟩) 1 1)).heap.size = w1.heap.size := by simp [set7]
    simp only [set7] at hW g7 hsz
    generalize (((((((w1.setCell { block := w.heap.size, off := 0 } (.int .i64 4)).setCell { block := w.heap.size, off := 1 } (str [45])).setCell { block := w.heap.size, off := 2 } (.int .i64 0)).setCell { block := w.heap.size, off := 3 } (.int .i64 0)).setCell { block := w.heap.size, off := 4 } (str [])).setCell { block := w.heap.size, off := 5 } (.slice none 0 0)).setCell { block := w.heap.size, off := 6 } (.slice (some ⟨w1.heap.size, 0, none⟩) 1 1)) = W at *
    exact bodyPost_ret (results_ex (hd := hd0 4 [45]) (pv := .slice none 0 0) (lv := .slice (some ⟨w1.heap.size, 0, none⟩) 1 1) rfl _ (Blk.alloc hW (Obj.cells #[Value.int IntKind.i64 x.h.op, str x.h.s, Value.int IntKind.i64 x.h.vk, Value.int IntKind.i64 x.h.vn, str x.h.vs, Value.slice pa x.h.p.length pc, Value.slice la x.kids.len lc] 29)) rfl) rfl (rpe_one (op := 4) (s := [45]) hb gg rp rl (by intro q hq; have : (w0).heap.size ≤ q := hq; omega) h1 g7 hsz)
  | false =>
    rw [hs] at HT ho
    have hq : (pr (takeR l [45] st)).bind (fun r => idxR l E N r.1 r.2) = some r := ho
    obtain ⟨⟨x, st1⟩, hx, hq⟩ := Option.bind_eq_some_iff.1 hq
    simp only at hq
    have H := Lib.hid (And.intro hE (And.intro hP (And.intro hx (And.intro hz (And.intro gz hq)))))
    clear ho hs hE hP ih hx hz gz h0 hq
    go_enter Tryz.func247, Tryz.ntmps247
    go_wp2_with fail
    refine HT.out.mono ?_
    rintro e w0 ⟨gs, v, rfl, rfl, h0⟩
    have hB := H.out.2.2.2.1.gb gs (by simp; omega)
    have g0 := gb_trans H.out.2.2.2.2.1 gs
    have hw0 : w.heap.size < w0.heap.size := hB.lt
    have HX := Lib.hid (H.out.2.1 _ _ _ h0 H.out.2.2.1)
    have HB := Lib.hid (And.intro hB g0)
    clear gs HT h0 hB g0
    go_wp2_with fail
    refine HX.out.mono ?_
    rintro e w1 ⟨g1, v, rfl, ⟨pa, pc, la, lc, rfl, rp, rl⟩, h1⟩
    simp only at rp rl h1 ⊢
    have HK := Lib.hid (KpR.new hb HB.out.1 HB.out.2 hw0 g1 rp rl h1)
    have hb1 := h1.lt
    clear rp rl h1 HX g1 HB
    go_wp2_with fail
    go_loopg [] N (fun m wr => ∃ x pa pc la lc st, KpR b tv l w w1.heap.size wr x pa pc la lc st ∧ idxR l E m x st = some r)
    case atStart => exact ⟨x, pa, pc, la, lc, _, HK.out, H.out.2.2.2.2.2⟩
    case round =>
      obtain ⟨x, pa, pc, la, lc, st2, hk, hloop⟩ := hrel
      clear HK
      cases gk with
      | zero => cases hloop
      | succ m =>
      rw [idxR] at hloop
      have HT := Lib.hid (rtake_any hk.rr [91])
      have HK := Lib.hid hk
      cases hs : hereR l [91] st2 with
      | false =>
        rw [hs] at HT hloop
        have hq : some (x, takeR l [91] st2) = some r := hloop
        clear hloop hs hk
        go_wp2_with fail
        refine HT.out.mono ?_
        rintro e w2 ⟨g2, v, rfl, rfl, h2⟩
        have HK2 := Lib.hid (HK.out.gb hb g2 h2)
        clear g2 h2 HK
        cases hq
        have hk2 := HK2.out
        have hL := hk2.blk
        have hZ := hk2.zero
        have hwL := hk2.wL
        clear hk2
        have cl_0 := hL.cell 0; have cl_1 := hL.cell 1; have cl_2 := hL.cell 2; have cl_3 := hL.cell 3; have cl_4 := hL.cell 4; have cl_5 := hL.cell 5; have cl_6 := hL.cell 6; simp only [hdC, List.getElem?_cons_zero, List.getElem?_cons_succ] at cl_0 cl_1 cl_2 cl_3 cl_4 cl_5 cl_6; have cl_f := fun i => hL.frozen i
        have cz_0 := hZ.cell 0; have cz_1 := hZ.cell 1; have cz_2 := hZ.cell 2; have cz_3 := hZ.cell 3; have cz_4 := hZ.cell 4; have cz_5 := hZ.cell 5; have cz_6 := hZ.cell 6; simp only [hdC, List.getElem?_cons_zero, List.getElem?_cons_succ] at cz_0 cz_1 cz_2 cz_3 cz_4 cz_5 cz_6; have cz_f := fun i => hZ.frozen i
        go_wp2
        have hk := HK2.out
        have g7 := gb_set7 w2 w.heap.size (.int .i64 x.h.op) (str x.h.s) (.int .i64 x.h.vk) (.int .i64 x.h.vn) (str x.h.vs) (.slice pa x.h.p.length pc) (.slice la x.kids.len lc)
        exact bodyPost_ret (results_ex rfl _ (hZ.set7 _ _ _ _ _ _ _) rfl) rfl (rpe_copy hb hk.gr hk.ve (by intro k hk; exact hk.1) hk.rr g7)
      | true =>
        rw [hs] at HT hloop
        have hq : (E (takeR l [91] st2)).bind (fun r => idxR l E m (indexE x r.1) (wantR l [93] r.2)) = some r := hloop
        obtain ⟨⟨z, st3⟩, hy, hq⟩ := Option.bind_eq_some_iff.1 hq
        simp only at hq
        have HQ := Lib.hid hq
        have HY := Lib.hid hy
        clear hloop hs hk hq hy
        go_wp2_with fail
        refine HT.out.mono ?_
        rintro e w2 ⟨g2, v, rfl, rfl, h2⟩
        have hbw2 := h2.lt
        have HK2 := Lib.hid (HK.out.gb hb g2 h2)
        have hL2 := HK2.out.blk.lt
        have HX := Lib.hid (H.out.1 _ _ _ h2 HY.out)
        clear g2 h2 HK HT
        go_wp2_with fail
        refine HX.out.mono ?_
        rintro e w4 ⟨g4, v, rfl, ⟨za, zc, na, nc, rfl, zp, zl⟩, h4⟩
        simp only at zp zl h4 ⊢
        have hs4 := g4.size
        have hwL := HK2.out.wL
        have gI := World.grownBy_alloc w4 (.cells (hdC z.h (.slice za z.h.p.length zc) (.slice na z.kids.len nc)).toArray 29 (0, 0)) none
        have hin : ∀ g, since w2.heap.size g → but w w1.heap.size g := fun g hg => by have hg : w2.heap.size ≤ g := hg; exact ⟨by omega, by omega⟩
        have hkI := (HK2.out.gb hb g4 h4).gbN hb gI
        have HI := Lib.hid (And.intro (Blk.new w4 (hdC z.h (.slice za z.h.p.length zc) (.slice na z.kids.len nc)) 29) (And.intro ((zp.gb gI (by simp)).mono fun g hg _ => hin g hg) ((zl.gb gI (by simp)).mono fun g hg _ => hin g hg)))
        have HKI := Lib.hid hkI
        have hb4 := h4.lt
        clear hkI gI zp zl h4 g4 HX hin
        go_wp2_with fail
        refine (rwant_any HKI.out.rr [93]).mono ?_
        rintro e w6 ⟨g6, v, rfl, rfl, h6⟩
        have hk6 := HKI.out.gb hb g6 h6
        have hI6 := HI.out.1.gb g6 (by simp; omega)
        have hL6 := hk6.blk
        have hok6 : ∀ q, but w w1.heap.size q → q < (w4.alloc (.cells (hdC z.h (.slice za z.h.p.length zc) (.slice na z.kids.len nc)).toArray 29 (0, 0))).heap.size → some q ≠ some b := fun q hq _ e => by cases e; have := hq.1; omega
        have hK7 := hk6.two hb 6 [] (HI.out.2.1.gb g6 hok6) (HI.out.2.2.gb g6 hok6)
        have HK7 := Lib.hid hK7
        have hlt6 := hL6.lt
        have hlt7 := hI6.lt
        have hne6 : w1.heap.size ≠ w4.heap.size := by omega
        clear hk6 hK7 h6 g6
        have cl_0 := hL6.cell 0; have cl_1 := hL6.cell 1; have cl_2 := hL6.cell 2; have cl_3 := hL6.cell 3; have cl_4 := hL6.cell 4; have cl_5 := hL6.cell 5; have cl_6 := hL6.cell 6; simp only [hdC, List.getElem?_cons_zero, List.getElem?_cons_succ] at cl_0 cl_1 cl_2 cl_3 cl_4 cl_5 cl_6; have cl_f := fun i => hL6.frozen i
        have ci_0 := hI6.cell 0; have ci_1 := hI6.cell 1; have ci_2 := hI6.cell 2; have ci_3 := hI6.cell 3; have ci_4 := hI6.cell 4; have ci_5 := hI6.cell 5; have ci_6 := hI6.cell 6; simp only [hdC, List.getElem?_cons_zero, List.getElem?_cons_succ] at ci_0 ci_1 ci_2 ci_3 ci_4 ci_5 ci_6; have ci_f := fun i => hI6.frozen i
        go_wp2_with fail
        go_roundg m
        case measure => omega
        case rel => exact ⟨indexE x z, none, 0, _, 2, _, HK7.out, HQ.out⟩
end

end Go.Proofs.YtmcajbhljbbglaaGreatDoor

namespace Go.Proofs.YtmcajbhljbbglaaGreatDoor
open Go.RowKit

theorem rin_nil (s : Bs) (w : World) : Calls Tryz.prog 101 #[.slice none 0 0, str s] w fun e w' => e = .returned (.bool false) ∧ w = w' := by
  go_enter Tryz.func101, Tryz.ntmps101
  go_wp2_with fail
  go_loopg [5] 0 (fun g v5 wr => v5 = .int .i64 0 ∧ w = wr)
  case atStart => exact ⟨rfl, rfl⟩
  case round =>
    obtain ⟨rfl, rfl⟩ := hrel
    go_wp2
    go_ret
    exact ⟨rfl, rfl⟩

section
variable {b : Nat} {tv : Value} {l : List Tok}

set_option maxRecDepth 20000 in
set_option maxHeartbeats 1000000 in
theorem rvariable_any {w : World} {st : RS} (h : Rr w b tv l st) :
    Calls Tryz.prog 303 #[.pointer (some ⟨b, 0, none⟩)] w (RPost b tv l w VStr (nameR l st)) := by
  have c3 := h.c3
  have hb := h.lt
  have HH := Lib.hid h
  clear h
  go_enter Tryz.func303, Tryz.ntmps303
  go_wp2_with fail
  go_region_with (first | (go_at_call 63; refine (rtoken0 (HH.out.gbN (gb_drew (gb_refl _ _)))).mono ?_; rintro e w1 ⟨rfl, g1⟩; have h1 := HH.out.gbN (gb_trans (gb_drew (gb_refl _ _)) g1); have d3 := h1.c3; clear h1) | (go_at_call 101; refine (rin_nil _ _).mono ?_; rintro e w2 ⟨rfl, rfl⟩))
  all_goals
    have h1 := HH.out.gbN (gb_trans (gb_drew (gb_refl _ _)) g1)
    go_wp2_with fail
    refine (rname_any h1).mono ?_
    rintro e w2 ⟨g2, v, rfl, rfl, h2⟩
    have HE := Lib.hid (And.intro g2 h2)
    clear g2 h2
    go_wp2
    go_ret
    exact ⟨gb_trans (gb_none (gb_trans (gb_drew (gb_refl _ _)) g1)) HE.out.1, _, rfl, rfl, HE.out.2⟩

set_option maxRecDepth 20000 in
set_option maxHeartbeats 2000000 in
theorem rmacro_any {E : FR Ex} (hE : CR 28 b tv l E) : CR 139 b tv l (macroR l E) := by
  intro w st r h ho
  have hb := h.lt
  have gz : w.grownBy (w.alloc (.cells zeroE.toArray 29 (0, 0))) (some b) := gb_alloc (gb_refl _ _) _
  have hz := Blk.new w zeroE 29
  have h0 := h.alloc (.cells zeroE.toArray 29 (0, 0))
  unfold macroR at ho
  have H := Lib.hid (And.intro hE (And.intro hz gz))
  have HW := Lib.hid (rwant_any h0 [38])
  clear hE hz gz h0
  go_enter Tryz.func139, Tryz.ntmps139
  go_wp2_with fail
  refine HW.out.mono ?_
  rintro e w1 ⟨g1, v, rfl, rfl, h1⟩
  have HT := Lib.hid (rtake_any h1 [40])
  have hZ := H.out.2.1.gb g1 (by simp; omega)
  have hG := Lib.hid (gb_trans H.out.2.2 g1)
  have hb1 := h1.lt
  simp only at h1 HT
  clear g1 HW
  cases hs : hereR l [40] (wantR l [38] st) with
  | true =>
    rw [hs] at HT ho
    have hq : (E (takeR l [40] (wantR l [38] st))).bind (fun r => some (⟨hd0 9 [], .one r.1⟩, wantR l [41] r.2)) = some r := ho
    obtain ⟨⟨x, st1⟩, hx, hq⟩ := Option.bind_eq_some_iff.1 hq
    simp only at hq
    cases hq
    have HX := Lib.hid hx
    clear ho hs hx h1
    go_wp2_with fail
    refine HT.out.mono ?_
    rintro e w2 ⟨g2, v, rfl, rfl, h2⟩
    have hB := hZ.gb g2 (by simp; omega)
    have g0 := gb_trans hG.out g2
    have hw0 : w.heap.size < w2.heap.size := hB.lt
    have HB := Lib.hid (And.intro hB g0)
    have HC := Lib.hid (H.out.1 _ _ _ h2 HX.out)
    clear hB g0 g2 h2 hZ HT
    go_wp2_with fail
    refine HC.out.mono ?_
    rintro e w3 ⟨g3, v, rfl, ⟨pa, pc, la, lc, rfl, rp, rl⟩, h3⟩
    simp only at rp rl h3 ⊢
    have HK := Lib.hid (KpR.new hb HB.out.1 HB.out.2 hw0 g3 rp rl h3)
    have hb3 := h3.lt
    clear rp rl h3 HC g3 HB
    go_wp2_with fail
    refine (rwant_any HK.out.rr [41]).mono ?_
    rintro e w4 ⟨g4, v, rfl, rfl, h4⟩
    have HK2 := Lib.hid (HK.out.gb hb g4 h4)
    clear g4 h4 HK
    have hk2 := HK2.out
    have hL := hk2.blk
    have hZ := hk2.zero
    have hwL := hk2.wL
    have hLb := hL.lt
    have hltz := hZ.lt
    clear hk2
    have cl_0 := hL.cell 0; have cl_1 := hL.cell 1; have cl_2 := hL.cell 2; have cl_3 := hL.cell 3; have cl_4 := hL.cell 4; have cl_5 := hL.cell 5; have cl_6 := hL.cell 6; simp only [hdC, List.getElem?_cons_zero, List.getElem?_cons_succ] at cl_0 cl_1 cl_2 cl_3 cl_4 cl_5 cl_6; have cl_f := fun i => hL.frozen i
    have cz_0 := hZ.cell 0; have cz_1 := hZ.cell 1; have cz_2 := hZ.cell 2; have cz_3 := hZ.cell 3; have cz_4 := hZ.cell 4; have cz_5 := hZ.cell 5; have cz_6 := hZ.cell 6; simp only [hdC, List.getElem?_cons_zero, List.getElem?_cons_succ] at cz_0 cz_1 cz_2 cz_3 cz_4 cz_5 cz_6; have cz_f := fun i => hZ.frozen i
    go_wp2
    have hk := HK2.out
    have g7 := gb_set7 w4 w.heap.size (.int .i64 9) (str []) (.int .i64 0) (.int .i64 0) (str []) (.slice none 0 0) (.slice (some ⟨w4.heap.size, 0, none⟩) 1 1)
    have hW := hZ.set7 (.int .i64 9) (str []) (.int .i64 0) (.int .i64 0) (str []) (.slice none 0 0) (.slice (some ⟨w4.heap.size, 0, none⟩) 1 1)
    have hsz : (set7 w4 w.heap.size (.int .i64 9) (str []) (.int .i64 0) (.int .i64 0) (str []) (.slice none 0 0) (.slice (some ⟨w4.heap.size, 0, none⟩) 1 1)).heap.size = w4.heap.size := by simp [set7]
    simp only [set7] at hW g7 hsz
    generalize (((((((w4.setCell { block := w.heap.size, off := 0 } (.int .i64 9)).setCell { block := w.heap.size, off := 1 } (str [])).setCell { block := w.heap.size, off := 2 } (.int .i64 0)).setCell { block := w.heap.size, off := 3 } (.int .i64 0)).setCell { block := w.heap.size, off := 4 } (str [])).setCell { block := w.heap.size, off := 5 } (.slice none 0 0)).setCell { block := w.heap.size, off := 6 } (.slice (some ⟨w4.heap.size, 0, none⟩) 1 1)) = W' at *
    exact bodyPost_ret (results_ex (hd := hd0 9 []) (pv := .slice none 0 0) (lv := .slice (some ⟨w4.heap.size, 0, none⟩) 1 1) rfl _ (Blk.alloc hW (Obj.cells #[Value.int IntKind.i64 x.h.op, str x.h.s, Value.int IntKind.i64 x.h.vk, Value.int IntKind.i64 x.h.vn, str x.h.vs, Value.slice pa x.h.p.length pc, Value.slice la x.kids.len lc] 29)) rfl) rfl (rpe_one (op := 9) (s := []) hb hk.gr hk.rp hk.rl (by intro k hk; exact hk.1) hk.rr g7 hsz)
  | false =>
    rw [hs] at HT ho
    have hq : some ((⟨hd0 9 (nameR l (takeR l [40] (wantR l [38] st))).1, .nil⟩ : Ex), takeR l [46] (nameR l (takeR l [40] (wantR l [38] st))).2) = some r := ho
    cases hq
    clear ho hs h1
    go_wp2_with fail
    refine HT.out.mono ?_
    rintro e w2 ⟨g2, v, rfl, rfl, h2⟩
    have hB := hZ.gb g2 (by simp; omega)
    have g0 := gb_trans hG.out g2
    have hb2 := h2.lt
    have HN := Lib.hid (rname_any h2)
    have hw2 : w.heap.size < w2.heap.size := hB.lt
    have HB := Lib.hid (And.intro hB g0)
    simp only at HN
    clear hB g0 g2 h2 hZ HT
    generalize (takeR l [40] (wantR l [38] st)) = st1 at *
    go_wp2_with fail
    refine HN.out.mono ?_
    rintro e w3 ⟨g3, v, rfl, rfl, h3⟩
    simp only at h3 ⊢
    generalize (nameR l st1).1 = s at *
    have hb3 := h3.lt
    have HK := Lib.hid (KpR.new (x := ⟨hd0 9 s, .nil⟩) (pa := none) (pc := 0) (la := none) (lc := 0) hb HB.out.1 HB.out.2 hw2 g3 (Cells.nil _ _ _) (RepL.nil _ _) h3)
    clear h3 HN g3 HB
    go_wp2_with fail
    refine (rtake_any HK.out.rr [46]).mono ?_
    rintro e w4 ⟨g4, v, rfl, rfl, h4⟩
    have HK2 := Lib.hid (HK.out.gb hb g4 h4)
    clear g4 h4 HK
    have hk2 := HK2.out
    have hL := hk2.blk
    have hZ := hk2.zero
    have hwL := hk2.wL
    clear hk2
    have cl_0 := hL.cell 0; have cl_1 := hL.cell 1; have cl_2 := hL.cell 2; have cl_3 := hL.cell 3; have cl_4 := hL.cell 4; have cl_5 := hL.cell 5; have cl_6 := hL.cell 6; simp only [hdC, List.getElem?_cons_zero, List.getElem?_cons_succ] at cl_0 cl_1 cl_2 cl_3 cl_4 cl_5 cl_6; have cl_f := fun i => hL.frozen i
    have cz_0 := hZ.cell 0; have cz_1 := hZ.cell 1; have cz_2 := hZ.cell 2; have cz_3 := hZ.cell 3; have cz_4 := hZ.cell 4; have cz_5 := hZ.cell 5; have cz_6 := hZ.cell 6; simp only [hdC, List.getElem?_cons_zero, List.getElem?_cons_succ] at cz_0 cz_1 cz_2 cz_3 cz_4 cz_5 cz_6; have cz_f := fun i => hZ.frozen i
    go_wp2
    have hk := HK2.out
    have g7 := gb_set7 w4 w.heap.size (.int .i64 9) (str s) (.int .i64 0) (.int .i64 0) (str []) (.slice none 0 0) (.slice none 0 0)
    exact bodyPost_ret (results_ex (hd := hd0 9 s) (pv := .slice none 0 0) (lv := .slice none 0 0) rfl _ (hZ.set7 _ _ _ _ _ _ _) rfl) rfl (rpe_copy hb hk.gr hk.ve (by intro k hk; exact hk.1) hk.rr g7)
end

end Go.Proofs.YtmcajbhljbbglaaGreatDoor

namespace Go.Proofs.YtmcajbhljbbglaaGreatDoor
open Go.RowKit
section
variable {b : Nat} {tv : Value} {l : List Tok}

theorem RepL.one_name {w : World} {n : Nat} {t : Bs} {ok : Nat → Prop} (hn : n = w.heap.size) (hok : ok n) :
    RepL ok (w.alloc (.cells (hdC (hd0 1 t) (.slice none 0 0) (.slice none 0 0)).toArray 29 (0, 0))) (.slice (some ⟨n, 0, none⟩) 1 1) (.one (nameE t)) :=
  RepL.one (x := nameE t) hn hok (Cells.nil _ _ _) (RepL.nil _ _)

set_option maxRecDepth 20000 in
set_option maxHeartbeats 2000000 in
theorem rnamed_any {E : FR Ex} (hE : CR 28 b tv l E) (n : Nat) (hn : n ≤ 100000) : CR 293 b tv l (namedR l E n) := by
  intro w st r h ho
  have hb := h.lt
  have gz : w.grownBy (w.alloc (.cells zeroE.toArray 29 (0, 0))) (some b) := gb_alloc (gb_refl _ _) _
  have hz := Blk.new w zeroE 29
  have h0 := h.alloc (.cells zeroE.toArray 29 (0, 0))
  unfold namedR at ho
  have HS := Lib.hid (risSign_any h0 1 (by omega) [40])
  have H := Lib.hid (And.intro hE (And.intro hz (And.intro gz h0)))
  clear hE hz gz h0
  cases hs : isSignM (tokAt l (st.1 + 1)) [40] with
  | true =>
    rw [hs] at HS ho
    have hq : (closedR l E n [41] (wantR l [40] (nameR l st).2)).bind (fun r => some (⟨hd0 3 (nameR l st).1, r.1⟩, r.2)) = some r := ho
    obtain ⟨⟨f, st1⟩, hf, hq⟩ := Option.bind_eq_some_iff.1 hq
    simp only at hq
    cases hq
    have HF := Lib.hid hf
    clear ho hs hf
    go_enter Tryz.func293, Tryz.ntmps293
    go_wp2_with fail
    refine HS.out.mono ?_
    rintro e w1 ⟨rfl, g1⟩
    have h1 := H.out.2.2.2.gbN g1
    have hZ1 := H.out.2.1.gb g1 (by simp)
    have G1 := Lib.hid (gb_sub H.out.2.2.1 g1)
    have HN := Lib.hid (rname_any h1)
    clear HS g1 h1
    go_wp2_with fail
    refine HN.out.mono ?_
    rintro e w2 ⟨g2, v, rfl, rfl, h2⟩
    have hZ2 := hZ1.gb g2 (by simp; omega)
    have G2 := Lib.hid (gb_trans G1.out g2)
    simp only at h2 ⊢
    generalize (nameR l st).1 = s at *
    generalize (nameR l st).2 = st2 at *
    clear HN g2 hZ1
    go_wp2_with fail
    refine (rwant_any h2 [40]).mono ?_
    rintro e w3 ⟨g3, v, rfl, rfl, h3⟩
    have hZ3 := hZ2.gb g3 (by simp; omega)
    have G3 := Lib.hid (gb_trans G2.out g3)
    have hlt3 := hZ3.lt
    have HC := Lib.hid (rclosed_any H.out.1 h3 n hn [41] HF.out)
    clear h2 g3 hZ2 h3
    go_wp2_with fail
    refine HC.out.mono ?_
    rintro e w4 ⟨g4, v, rfl, ⟨la, lc, rfl, rl⟩, h4⟩
    simp only at rl h4 ⊢
    have hZ4 := hZ3.gb g4 (by simp; omega)
    have HE := Lib.hid (And.intro (gb_trans G3.out g4) (And.intro rl h4))
    clear g4 rl h4 hZ3 HC
    have cz_0 := hZ4.cell 0; have cz_1 := hZ4.cell 1; have cz_2 := hZ4.cell 2; have cz_3 := hZ4.cell 3; have cz_4 := hZ4.cell 4; have cz_5 := hZ4.cell 5; have cz_6 := hZ4.cell 6; simp only [hdC, List.getElem?_cons_zero, List.getElem?_cons_succ] at cz_0 cz_1 cz_2 cz_3 cz_4 cz_5 cz_6; have cz_f := fun i => hZ4.frozen i
    go_wp2
    have g7 := gb_set7 w4 w.heap.size (.int .i64 3) (str s) (.int .i64 0) (.int .i64 0) (str []) (.slice none 0 0) (.slice la f.len lc)
    exact bodyPost_ret (results_ex (hd := hd0 3 s) (pv := .slice none 0 0) (lv := .slice la f.len lc) rfl _ (hZ4.set7 _ _ _ _ _ _ _) rfl) rfl (rpe_copy (x := ⟨hd0 3 s, f⟩) hb HE.out.1 (VE.node HE.out.2.1) (by intro k hk; have : w3.heap.size ≤ k := hk; omega) HE.out.2.2 g7)
  | false =>
    rw [hs] at HS ho
    have HO := Lib.hid ho
    clear ho hs
    go_enter Tryz.func293, Tryz.ntmps293
    go_wp2_with fail
    refine HS.out.mono ?_
    rintro e w1 ⟨rfl, g1⟩
    have h1 := H.out.2.2.2.gbN g1
    have hZ1 := H.out.2.1.gb g1 (by simp)
    have G1 := Lib.hid (gb_sub H.out.2.2.1 g1)
    have HN := Lib.hid (rvariable_any h1)
    clear HS g1 h1
    go_wp2_with fail
    refine HN.out.mono ?_
    rintro e w2 ⟨g2, v, rfl, rfl, h2⟩
    have hZ2 := hZ1.gb g2 (by simp; omega)
    have G2 := Lib.hid (gb_trans G1.out g2)
    have ho := HO.out
    simp only [Bool.false_eq_true, if_false] at ho
    simp only at h2 ⊢
    generalize (nameR l st).1 = s at *
    generalize (nameR l st).2 = st2 at *
    have HT := Lib.hid (rtake_any h2 [45, 62])
    clear HN g2 hZ1 HO h2
    cases hs2 : hereR l [45, 62] st2 with
    | false =>
      rw [hs2] at HT ho
      have hq : some (nameE s, takeR l [45, 62] st2) = some r := ho
      cases hq
      clear ho hs2
      go_wp2_with fail
      refine HT.out.mono ?_
      rintro e w3 ⟨g3, v, rfl, rfl, h3⟩
      have hZ := hZ2.gb g3 (by simp; omega)
      have HR := Lib.hid (And.intro (gb_trans G2.out g3) h3)
      clear hZ2 g3 h3 HT
      have cz_0 := hZ.cell 0; have cz_1 := hZ.cell 1; have cz_2 := hZ.cell 2; have cz_3 := hZ.cell 3; have cz_4 := hZ.cell 4; have cz_5 := hZ.cell 5; have cz_6 := hZ.cell 6; simp only [hdC, List.getElem?_cons_zero, List.getElem?_cons_succ] at cz_0 cz_1 cz_2 cz_3 cz_4 cz_5 cz_6; have cz_f := fun i => hZ.frozen i
      go_wp2
      exact bodyPost_ret (results_ex (hd := (nameE s : Ex).h) (pv := .slice none 0 0) (lv := .slice none 0 0) rfl _ (hZ.set7 _ _ _ _ _ _ _) rfl) rfl (rpe_copy (ok := fun k => w.heap.size < k) (x := nameE s) hb HR.out.1 ⟨none, 0, none, 0, rfl, Cells.nil _ _ _, RepL.nil _ _⟩ (fun k hk => hk) HR.out.2 (gb_set7 _ _ _ _ _ _ _ _ _))
    | true =>
      rw [hs2] at HT ho
      have HO := Lib.hid ho
      clear ho hs2
      go_wp2_with fail
      refine HT.out.mono ?_
      rintro e w3 ⟨g3, v, rfl, rfl, h3⟩
      have hZ3 := hZ2.gb g3 (by simp; omega)
      have G3 := Lib.hid (gb_trans G2.out g3)
      have ho := HO.out
      simp only [if_true] at ho
      simp only at h3 ⊢
      generalize takeR l [45, 62] st2 = st3 at *
      have HT := Lib.hid (rtake_any h3 [40])
      clear g3 hZ2 HO h3
      cases hs3 : hereR l [40] st3 with
      | true =>
        rw [hs3] at HT ho
        have hq : (E (takeR l [40] st3)).bind (fun r => some (⟨hd0 2 s, .one r.1⟩, wantR l [41] r.2)) = some r := ho
        obtain ⟨⟨x, st4⟩, hx, hq⟩ := Option.bind_eq_some_iff.1 hq
        simp only at hq
        cases hq
        have HX := Lib.hid hx
        clear ho hs3 hx
        go_wp2_with fail
        refine HT.out.mono ?_
        rintro e w4 ⟨g4, v, rfl, rfl, h4⟩
        have hB := hZ3.gb g4 (by simp; omega)
        have g0 := gb_trans G3.out g4
        have hw0 : w.heap.size < w4.heap.size := hB.lt
        have HB := Lib.hid (And.intro hB g0)
        have HC := Lib.hid (H.out.1 _ _ _ h4 HX.out)
        clear hB g0 g4 h4 hZ3 HT
        go_wp2_with fail
        refine HC.out.mono ?_
        rintro e w5 ⟨g5, v, rfl, ⟨pa, pc, la, lc, rfl, rp, rl⟩, h5⟩
        simp only at rp rl h5 ⊢
        have HK := Lib.hid (KpR.new hb HB.out.1 HB.out.2 hw0 g5 rp rl h5)
        have hb5 := h5.lt
        clear rp rl h5 HC g5 HB
        go_wp2_with fail
        refine (rwant_any HK.out.rr [41]).mono ?_
        rintro e w6 ⟨g6, v, rfl, rfl, h6⟩
        have HK2 := Lib.hid (HK.out.gb hb g6 h6)
        clear g6 h6 HK
        have hk2 := HK2.out
        have hL := hk2.blk
        have hZ := hk2.zero
        have hwL := hk2.wL
        have hLb := hL.lt
        have hltz := hZ.lt
        clear hk2
        have cl_0 := hL.cell 0; have cl_1 := hL.cell 1; have cl_2 := hL.cell 2; have cl_3 := hL.cell 3; have cl_4 := hL.cell 4; have cl_5 := hL.cell 5; have cl_6 := hL.cell 6; simp only [hdC, List.getElem?_cons_zero, List.getElem?_cons_succ] at cl_0 cl_1 cl_2 cl_3 cl_4 cl_5 cl_6; have cl_f := fun i => hL.frozen i
        have cz_0 := hZ.cell 0; have cz_1 := hZ.cell 1; have cz_2 := hZ.cell 2; have cz_3 := hZ.cell 3; have cz_4 := hZ.cell 4; have cz_5 := hZ.cell 5; have cz_6 := hZ.cell 6; simp only [hdC, List.getElem?_cons_zero, List.getElem?_cons_succ] at cz_0 cz_1 cz_2 cz_3 cz_4 cz_5 cz_6; have cz_f := fun i => hZ.frozen i
        go_wp2
        have hk := HK2.out
        have g7 := gb_set7 w6 w.heap.size (.int .i64 2) (str s) (.int .i64 0) (.int .i64 0) (str []) (.slice none 0 0) (.slice (some ⟨w6.heap.size, 0, none⟩) 1 1)
        have hW := hZ.set7 (.int .i64 2) (str s) (.int .i64 0) (.int .i64 0) (str []) (.slice none 0 0) (.slice (some ⟨w6.heap.size, 0, none⟩) 1 1)
        have hsz : (set7 w6 w.heap.size (.int .i64 2) (str s) (.int .i64 0) (.int .i64 0) (str []) (.slice none 0 0) (.slice (some ⟨w6.heap.size, 0, none⟩) 1 1)).heap.size = w6.heap.size := by simp [set7]
        simp only [set7] at hW g7 hsz
        generalize (((((((w6.setCell { block := w.heap.size, off := 0 } (.int .i64 2)).setCell { block := w.heap.size, off := 1 } (str s)).setCell { block := w.heap.size, off := 2 } (.int .i64 0)).setCell { block := w.heap.size, off := 3 } (.int .i64 0)).setCell { block := w.heap.size, off := 4 } (str [])).setCell { block := w.heap.size, off := 5 } (.slice none 0 0)).setCell { block := w.heap.size, off := 6 } (.slice (some ⟨w6.heap.size, 0, none⟩) 1 1)) = W' at *
        exact bodyPost_ret (results_ex (hd := hd0 2 s) (pv := .slice none 0 0) (lv := .slice (some ⟨w6.heap.size, 0, none⟩) 1 1) rfl _ (Blk.alloc hW (Obj.cells #[Value.int IntKind.i64 x.h.op, str x.h.s, Value.int IntKind.i64 x.h.vk, Value.int IntKind.i64 x.h.vn, str x.h.vs, Value.slice pa x.h.p.length pc, Value.slice la x.kids.len lc] 29)) rfl) rfl (rpe_one (op := 2) (s := s) hb hk.gr hk.rp hk.rl (by intro k hk; exact hk.1) hk.rr g7 hsz)
      | false =>
        rw [hs3] at HT ho
        have hq : some ((⟨hd0 2 s, .one (nameE (nameR l (takeR l [40] st3)).1)⟩ : Ex), (nameR l (takeR l [40] st3)).2) = some r := ho
        cases hq
        clear ho hs3
        go_wp2_with fail
        refine HT.out.mono ?_
        rintro e w4 ⟨g4, v, rfl, rfl, h4⟩
        have hZ4 := hZ3.gb g4 (by simp; omega)
        have G4 := Lib.hid (gb_trans G3.out g4)
        have HN := Lib.hid (rvariable_any h4)
        simp only at HN
        generalize takeR l [40] st3 = st4 at *
        clear g4 hZ3 HT h4
        go_wp2_with fail
        refine HN.out.mono ?_
        rintro e w5 ⟨g5, v, rfl, rfl, h5⟩
        have hZ5 := hZ4.gb g5 (by simp; omega)
        have HE := Lib.hid (And.intro (gb_trans G4.out g5) h5)
        have hlt5 := hZ5.lt
        simp only at HE ⊢
        generalize (nameR l st4).1 = t at *
        generalize (nameR l st4).2 = st5 at *
        clear g5 hZ4 HN h5
        have cz_0 := hZ5.cell 0; have cz_1 := hZ5.cell 1; have cz_2 := hZ5.cell 2; have cz_3 := hZ5.cell 3; have cz_4 := hZ5.cell 4; have cz_5 := hZ5.cell 5; have cz_6 := hZ5.cell 6; simp only [hdC, List.getElem?_cons_zero, List.getElem?_cons_succ] at cz_0 cz_1 cz_2 cz_3 cz_4 cz_5 cz_6; have cz_f := fun i => hZ5.frozen i
        go_wp2
        have g7 := gb_set7 w5 w.heap.size (.int .i64 2) (str s) (.int .i64 0) (.int .i64 0) (str []) (.slice none 0 0) (.slice (some ⟨w5.heap.size, 0, none⟩) 1 1)
        have hW := hZ5.set7 (.int .i64 2) (str s) (.int .i64 0) (.int .i64 0) (str []) (.slice none 0 0) (.slice (some ⟨w5.heap.size, 0, none⟩) 1 1)
        have hsz : (set7 w5 w.heap.size (.int .i64 2) (str s) (.int .i64 0) (.int .i64 0) (str []) (.slice none 0 0) (.slice (some ⟨w5.heap.size, 0, none⟩) 1 1)).heap.size = w5.heap.size := by simp [set7]
        simp only [set7] at hW g7 hsz
        generalize (((((((w5.setCell { block := w.heap.size, off := 0 } (.int .i64 2)).setCell { block := w.heap.size, off := 1 } (str s)).setCell { block := w.heap.size, off := 2 } (.int .i64 0)).setCell { block := w.heap.size, off := 3 } (.int .i64 0)).setCell { block := w.heap.size, off := 4 } (str [])).setCell { block := w.heap.size, off := 5 } (.slice none 0 0)).setCell { block := w.heap.size, off := 6 } (.slice (some ⟨w5.heap.size, 0, none⟩) 1 1)) = W' at *
        exact bodyPost_ret (results_ex (hd := hd0 2 s) (pv := .slice none 0 0) (lv := .slice (some ⟨w5.heap.size, 0, none⟩) 1 1) rfl _ (Blk.alloc hW _) rfl) rfl (rpe_one (x := nameE t) (pa := none) (pc := 0) (la := none) (lc := 0) (op := 2) (s := s) (ok := fun k => w.heap.size < k) hb HE.out.1 (Cells.nil _ _ _) (RepL.nil _ _) (fun k hk => hk) HE.out.2 g7 hsz)
end

end Go.Proofs.YtmcajbhljbbglaaGreatDoor
