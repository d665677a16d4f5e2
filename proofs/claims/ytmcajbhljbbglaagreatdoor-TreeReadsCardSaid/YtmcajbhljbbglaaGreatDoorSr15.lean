/-
  The reference's ParseExpr.
-/
import Derived.Test.YtmcajbhljbbglaaGreatDoorSr08
import Derived.Test.YtmcajbhljbbglaaGreatDoorSr14
set_option linter.all false
set_option linter.unusedVariables false
set_option linter.unusedSimpArgs false
set_option linter.unnecessarySimpa false
set_option linter.constructorNameAsVariable false
set_option linter.deprecated false

namespace Go.Proofs.YtmcajbhljbbglaaGreatDoor
open Go.RowKit

/-- the reference's reading of a line -/
theorem rline {l : List Tok} (hn : Names l) : ∃ x st, exprR l dayM (l.length + 2) (0, false) = some (x, st) ∧ (((endR l st).2 = false ∧ lineM l dayM (l.length + 2) = .ok x (endR l st).1) ∨ ((endR l st).2 = true ∧ lineM l dayM (l.length + 2) = .bad (endR l st).1)) := by
  have hs := (sim_expr hn dayM (l.length + 2)).go 0
  have hex := lineM_fine (l := l) dayM (l.length + 2) (Nat.le_refl _)
  unfold lineM at hex ⊢
  cases hr : exprM l dayM (l.length + 2) 0 with
  | out => rw [hr] at hex; exact absurd rfl hex
  | ok x j =>
    rw [hr, simGo_ok] at hs
    refine ⟨x, (j, false), hs, ?_⟩
    rw [Res.bind_ok]
    unfold endM
    cases hk : (tokAt l j).kind == 5 with
    | true =>
      have e : endR l (j, false) = (j + 1, false) := by simp only [endR, hk]; rfl
      rw [e]
      exact .inl ⟨rfl, rfl⟩
    | false =>
      have e : endR l (j, false) = (j, true) := by simp only [endR, hk]; rfl
      rw [e]
      exact .inr ⟨rfl, rfl⟩
  | bad k =>
    rw [hr, simGo_bad] at hs
    obtain ⟨x, hx⟩ := hs
    exact ⟨x, (k, true), hx, .inr ⟨rfl, rfl⟩⟩

theorem peTok_fails {l : List Tok} {i : Nat} (h : lineM l dayM (l.length + 2) = .bad i) : peTok l = .no i 2 := by
  unfold peTok exprAll; rw [h]
theorem peTok_short {l : List Tok} {x : Ex} {i : Nat} (h : lineM l dayM (l.length + 2) = .ok x i) (hi : i < l.length) : peTok l = .no i 2 := by
  unfold peTok exprAll; rw [h]; simp only; rw [if_pos hi]
theorem peTok_whole {l : List Tok} {x : Ex} {i : Nat} (h : lineM l dayM (l.length + 2) = .ok x i) (hi : ¬ i < l.length) : peTok l = if isLargeM x.nodes x.levels then .no 0 3 else .ok x l.length := by
  unfold peTok exprAll; rw [h]; simp only; rw [if_neg hi]

set_option maxRecDepth 40000 in
set_option maxHeartbeats 4000000 in
theorem refParseExpr_any (w : World) (s : Bs) : Calls Tryz.prog 10 #[str s] w (PePost w s) := by
  have g0 := World.grownBy_alloc w (.cells zeroE.toArray 29 (0, 0)) none
  have hB := Blk.new w zeroE 29
  have HX := Lib.hid (fun (W : World) => rlexed_any W s)
  go_enter Tryz.func10, Tryz.ntmps10
  go_wp2_with fail
  refine (HX.out _).mono ?_
  rintro e w1 ⟨g1, h1⟩
  have hB1 := hB.gb g1 (by simp)
  have gA := Lib.hid (gb_trans g0 g1)
  have hPM : ∀ l, lexTop s = .ok l → peM s = peTok l := fun l h => by unfold peM; rw [h]
  have hlt := hB1.lt
  clear g0 hB g1 HX
  cases hq : lexTop s with
  | error pc =>
    rw [hq] at h1
    obtain ⟨rfl, hc⟩ := h1
    have HQ := Lib.hid (show peM s = .no pc.1 pc.2 by unfold peM; rw [hq])
    have hc1 : (pc.2 != 0) = true := by simp; omega
    clear hq hPM
    have cb_0 := hB1.cell 0; have cb_1 := hB1.cell 1; have cb_2 := hB1.cell 2; have cb_3 := hB1.cell 3; have cb_4 := hB1.cell 4; have cb_5 := hB1.cell 5; have cb_6 := hB1.cell 6; simp only [hdC, List.getElem?_cons_zero, List.getElem?_cons_succ] at cb_0 cb_1 cb_2 cb_3 cb_4 cb_5 cb_6; have cb_f := fun i => hB1.frozen i
    have HB := Lib.hid hB1
    clear hB1
    go_wp2
    exact bodyPost_ret (results_pe rfl _ (HB.out.set7 (.int .i64 0) (str []) (.int .i64 0) (.int .i64 0) (str []) (.slice none 0 0) (.slice none 0 0)) rfl rfl rfl) rfl ⟨gb_sub' gA.out (gb_set7 w1 w.heap.size (.int .i64 0) (str []) (.int .i64 0) (.int .i64 0) (str []) (.slice none 0 0) (.slice none 0 0)) (.inr (Nat.le_refl _)), by rw [HQ.out]; rfl⟩
  | ok l =>
    rw [hq] at h1
    obtain ⟨v, rfl, hT, hok, hl⟩ := h1
    obtain ⟨ta, tc, rfl, _⟩ := id hT
    obtain ⟨x, st, hx, hst⟩ := rline (names_of_ok hok)
    have HQ := Lib.hid (And.intro (hPM l hq) hst)
    have gr := World.grownBy_alloc w1 (.cells #[.slice ta l.length tc, .int .i64 0, .bool false, .slice none 0 0] 62 (0, 0)) none
    have hR : Rr (w1.alloc (.cells #[.slice ta l.length tc, .int .i64 0, .bool false, .slice none 0 0] 62 (0, 0))) w1.heap.size (.slice ta l.length tc) l (0, false) :=
      ⟨Blk.new w1 [.slice ta l.length tc, .int .i64 0, .bool false, .slice none 0 0] _, (hT.mono (fun q hq h => h)).gb gr (by simp), Nat.zero_le _, by omega⟩
    have HC := Lib.hid (rexprs_any hok (l.length + 2) (by omega) _ _ _ hR hx)
    have HB := Lib.hid (And.intro (hB1.gb gr (by simp)) (gb_trans gA.out gr))
    clear hPM hq hT hok hx hst gr hR hB1 gA
    go_wp2_with fail
    refine HC.out.mono ?_
    rintro e w2 ⟨g2, v, rfl, ⟨pa, pc, la, lc, rfl, rp, rl⟩, hR2⟩
    simp only at rp rl hR2 ⊢
    have gK := World.grownBy_alloc w2 (.cells (hdC x.h (.slice pa x.h.p.length pc) (.slice la x.kids.len lc)).toArray 29 (0, 0)) none
    have hE := Blk.new w2 (hdC x.h (.slice pa x.h.p.length pc) (.slice la x.kids.len lc)) 29
    have hR3 := hR2.alloc (.cells (hdC x.h (.slice pa x.h.p.length pc) (.slice la x.kids.len lc)).toArray 29 (0, 0))
    have hB2 := (HB.out.1.gb g2 (by simp; omega)).gb gK (by simp)
    have gB := gb_trans (gb_sub' HB.out.2 g2 (.inr (by omega))) gK
    have HN := Lib.hid (rend_any hR3)
    have hbl := hR2.lt
    have HV := Lib.hid (And.intro ((rp.mono (ok' := since (w1.heap.size + 1)) (by intro q hq _; simpa using hq)).gb gK (by simp)) ((rl.mono (ok' := since (w1.heap.size + 1)) (by intro q hq _; simpa using hq)).gb gK (by simp)))
    have HB2 := Lib.hid (And.intro hB2 (And.intro gB hE))
    clear gK hE hR3 hB2 gB rp rl HC HB g2 hR2
    go_wp2_with fail
    refine HN.out.mono ?_
    rintro e w3 ⟨g3, v, rfl, rfl, h3⟩
    have hB3 := HB2.out.1.gb g3 (by simp; omega)
    have hE3 := HB2.out.2.2.gb g3 (by simp; omega)
    have hP3 := HV.out.1.gb g3 (by intro q hq _ e; cases e; have : w1.heap.size + 1 ≤ w1.heap.size := hq; omega)
    have hL3 := HV.out.2.gb g3 (by intro q hq _ e; cases e; have : w1.heap.size + 1 ≤ w1.heap.size := hq; omega)
    have gC := Lib.hid (gb_sub' HB2.out.2.1 g3 (.inr (by omega)))
    have hlt3 := g3.size
    have HST := HQ.out.2
    simp only at h3
    generalize endR l st = st2 at *
    obtain ⟨i, f⟩ := st2
    have c1 := h3.c1
    have c2 := h3.c2
    have hb3 := h3.lt
    have hblt := hB3.lt
    have helt := hE3.lt
    clear HN HV HB2 g3 h3
    simp only at c1 c2 HST
    cases f with
    | true =>
      have hbad : lineM l dayM (l.length + 2) = .bad i := by
        rcases HST with ⟨h, _⟩ | ⟨_, h⟩
        · cases h
        · exact h
      have HF := Lib.hid (show peM s = .no i 2 by rw [HQ.out.1, peTok_fails hbad])
      clear HST hbad HQ hP3 hL3 hE3
      have cb_0 := hB3.cell 0; have cb_1 := hB3.cell 1; have cb_2 := hB3.cell 2; have cb_3 := hB3.cell 3; have cb_4 := hB3.cell 4; have cb_5 := hB3.cell 5; have cb_6 := hB3.cell 6; simp only [hdC, List.getElem?_cons_zero, List.getElem?_cons_succ] at cb_0 cb_1 cb_2 cb_3 cb_4 cb_5 cb_6; have cb_f := fun i => hB3.frozen i
      have HB := Lib.hid hB3
      clear hB3
      go_wp2
      go_region
      go_wp2
      exact bodyPost_ret (results_pe rfl _ (Blk.drew (HB.out.set7 (.int .i64 0) (str []) (.int .i64 0) (.int .i64 0) (str []) (.slice none 0 0) (.slice none 0 0))) rfl rfl rfl) rfl ⟨gb_drew (gb_sub' gC.out (gb_set7 w3 w.heap.size (.int .i64 0) (str []) (.int .i64 0) (.int .i64 0) (str []) (.slice none 0 0) (.slice none 0 0)) (.inr (Nat.le_refl _))), by rw [HF.out]; rfl⟩
    | false =>
      have hok : lineM l dayM (l.length + 2) = .ok x i := by
        rcases HST with ⟨_, h⟩ | ⟨h, _⟩
        · exact h
        · cases h
      by_cases hi : i < l.length
      · have hi1 : decide (i < l.length) = true := by simpa using hi
        have HF := Lib.hid (show peM s = .no i 2 by rw [HQ.out.1, peTok_short hok hi])
        clear HST hok HQ hP3 hL3 hE3
        have cb_0 := hB3.cell 0; have cb_1 := hB3.cell 1; have cb_2 := hB3.cell 2; have cb_3 := hB3.cell 3; have cb_4 := hB3.cell 4; have cb_5 := hB3.cell 5; have cb_6 := hB3.cell 6; simp only [hdC, List.getElem?_cons_zero, List.getElem?_cons_succ] at cb_0 cb_1 cb_2 cb_3 cb_4 cb_5 cb_6; have cb_f := fun i => hB3.frozen i
        have HB := Lib.hid hB3
        clear hB3
        go_wp2
        go_region
        go_wp2
        exact bodyPost_ret (results_pe rfl _ (Blk.drew (HB.out.set7 (.int .i64 0) (str []) (.int .i64 0) (.int .i64 0) (str []) (.slice none 0 0) (.slice none 0 0))) rfl rfl rfl) rfl ⟨gb_drew (gb_sub' gC.out (gb_set7 w3 w.heap.size (.int .i64 0) (str []) (.int .i64 0) (.int .i64 0) (str []) (.slice none 0 0) (.slice none 0 0)) (.inr (Nat.le_refl _))), by rw [HF.out]; rfl⟩
      · have hi1 : decide (i < l.length) = false := by simpa using hi
        have HP := Lib.hid (show peM s = if isLargeM x.nodes x.levels then .no 0 3 else .ok x l.length by rw [HQ.out.1, peTok_whole hok hi])
        have hxn := lineM_big dayM _ hok
        clear HST hok HQ hi
        have gk1 := World.grownBy_alloc w3 (.cells #[.int .i64 0, .int .i64 0] 66 (0, 0)) none
        have hCn : Cn (w3.alloc (.cells #[.int .i64 0, .int .i64 0] 66 (0, 0))) w3.heap.size (0, 0) := Blk.new w3 [.int .i64 0, .int .i64 0] _
        have gk2 := World.grownBy_alloc (w3.alloc (.cells #[.int .i64 0, .int .i64 0] 66 (0, 0))) (.cells (hdC x.h (.slice pa x.h.p.length pc) (.slice la x.kids.len lc)).toArray 29 (0, 0)) none
        have hrow : RepL (· ≠ w3.heap.size) ((w3.alloc (.cells #[.int .i64 0, .int .i64 0] 66 (0, 0))).alloc (.cells (hdC x.h (.slice pa x.h.p.length pc) (.slice la x.kids.len lc)).toArray 29 (0, 0))) (.slice (some ⟨w3.heap.size + 1, 0, none⟩) 1 1) (.one x) :=
          RepL.one (x := x) (by simp) (by simp) ((hP3.mono (fun q _ hq => Nat.ne_of_lt hq)).gb gk1 (by simp)) ((hL3.mono (fun q _ hq => Nat.ne_of_lt hq)).gb gk1 (by simp))
        have hno : (Fo.one x).nodes = x.nodes := Fo.nodes_one x
        have HE := Lib.hid (show Calls Tryz.prog 30 #[.pointer (some ⟨w3.heap.size, 0, none⟩), .slice (some ⟨w3.heap.size + 1, 0, none⟩) 1 1, .int .i64 1] ((w3.alloc (.cells #[.int .i64 0, .int .i64 0] 66 (0, 0))).alloc (.cells (hdC x.h (.slice pa x.h.p.length pc) (.slice la x.kids.len lc)).toArray 29 (0, 0))) (CnPost _ w3.heap.size (cntF (.one x) 0 (0, 0))) from
          cexprs_N w3.heap.size (x.nodes + 1) (.one x) (by omega) (by omega) (some ⟨w3.heap.size + 1, 0, none⟩) 1 _ (0, 0) 0 (by simp only; omega) (by omega) hrow (hCn.gb gk2 (by simp)))
        have gK := gb_trans gk1 gk2
        have HH := Lib.hid (And.intro (hB3.gb gK (by simp)) (And.intro (hE3.gb gK (by simp)) (And.intro ((hP3.mono (ok' := fun q => w1.heap.size + 1 ≤ q ∧ q < w3.heap.size) (fun q h hq => ⟨h, hq⟩)).gb gK (by simp)) (And.intro ((hL3.mono (ok' := fun q => w1.heap.size + 1 ≤ q ∧ q < w3.heap.size) (fun q h hq => ⟨h, hq⟩)).gb gK (by simp)) (gb_trans gC.out gK)))))
        have ce_0 := hE3.cell 0; have ce_1 := hE3.cell 1; have ce_2 := hE3.cell 2; have ce_3 := hE3.cell 3; have ce_4 := hE3.cell 4; have ce_5 := hE3.cell 5; have ce_6 := hE3.cell 6; simp only [hdC, List.getElem?_cons_zero, List.getElem?_cons_succ] at ce_0 ce_1 ce_2 ce_3 ce_4 ce_5 ce_6; have ce_f := fun i => hE3.frozen i
        clear gk1 gk2 gK hCn hrow hno hB3 hE3 hP3 hL3 hxn
        go_wp2_with fail
        refine HE.out.mono ?_
        rintro e w4 ⟨rfl, g4, h4⟩
        go_wp2_with fail
        refine (clarge_any (n := (cntF (.one x) 0 (0, 0)).1) (m := (cntF (.one x) 0 (0, 0)).2) h4).mono ?_
        rintro e w5 ⟨rfl, g5⟩
        rw [cnt_top]
        have g45 := gb_sub g4 g5
        have hB5 := HH.out.1.gb g45 (by simp; omega)
        have hE5 := HH.out.2.1.gb g45 (by simp; omega)
        have hne : ∀ q, (w1.heap.size + 1 ≤ q ∧ q < w3.heap.size) → some q ≠ some w3.heap.size := fun q h e => by cases e; omega
        have HT := Lib.hid (And.intro (HH.out.2.2.1.gb g45 (fun q h _ => hne q h)) (And.intro (HH.out.2.2.2.1.gb g45 (fun q h _ => hne q h)) (And.intro HH.out.2.2.2.2 g45)))
        clear ce_0 ce_1 ce_2 ce_3 ce_4 ce_5 ce_6 ce_f g4 g5 g45 h4 HE hne
        have ce_0 := hE5.cell 0; have ce_1 := hE5.cell 1; have ce_2 := hE5.cell 2; have ce_3 := hE5.cell 3; have ce_4 := hE5.cell 4; have ce_5 := hE5.cell 5; have ce_6 := hE5.cell 6; simp only [hdC, List.getElem?_cons_zero, List.getElem?_cons_succ] at ce_0 ce_1 ce_2 ce_3 ce_4 ce_5 ce_6; have ce_f := fun i => hE5.frozen i
        have cb_0 := hB5.cell 0; have cb_1 := hB5.cell 1; have cb_2 := hB5.cell 2; have cb_3 := hB5.cell 3; have cb_4 := hB5.cell 4; have cb_5 := hB5.cell 5; have cb_6 := hB5.cell 6; simp only [hdC, List.getElem?_cons_zero, List.getElem?_cons_succ] at cb_0 cb_1 cb_2 cb_3 cb_4 cb_5 cb_6; have cb_f := fun i => hB5.frozen i
        have HR := Lib.hid hB5
        have hltE := hE5.lt
        have hltB := hB5.lt
        clear hE5 hB5 HH
        have gT := Lib.hid (gb_sub' HT.out.2.2.1 HT.out.2.2.2 (.inr (by omega)))
        cases hLL : isLargeM x.nodes x.levels with
        | true =>
          have HF := Lib.hid (show peM s = .no 0 3 by rw [HP.out]; rw [hLL]; rfl)
          clear hLL
          go_wp2
          exact bodyPost_ret (results_pe rfl _ (HR.out.set7 (.int .i64 0) (str []) (.int .i64 0) (.int .i64 0) (str []) (.slice none 0 0) (.slice none 0 0)) rfl rfl rfl) rfl ⟨gb_sub' gT.out (gb_set7 w5 w.heap.size (.int .i64 0) (str []) (.int .i64 0) (.int .i64 0) (str []) (.slice none 0 0) (.slice none 0 0)) (.inr (Nat.le_refl _)), by rw [HF.out]; rfl⟩
        | false =>
          have HF := Lib.hid (show peM s = .ok x l.length by rw [HP.out]; rw [hLL]; rfl)
          clear hLL
          go_wp2
          have g7 := gb_set7 w5 w.heap.size (.int .i64 x.h.op) (str x.h.s) (.int .i64 x.h.vk) (.int .i64 x.h.vn) (str x.h.vs) (.slice pa x.h.p.length pc) (.slice la x.kids.len lc)
          refine bodyPost_ret (results_pe rfl _ (HR.out.set7 (.int .i64 x.h.op) (str x.h.s) (.int .i64 x.h.vk) (.int .i64 x.h.vn) (str x.h.vs) (.slice pa x.h.p.length pc) (.slice la x.kids.len lc)) rfl rfl rfl) rfl ⟨gb_sub' gT.out g7 (.inr (Nat.le_refl _)), ?_⟩
          rw [HF.out]
          have hne : ∀ q, (w1.heap.size + 1 ≤ q ∧ q < w3.heap.size) → some q ≠ some w.heap.size := fun q h e => by cases e; omega
          have hin : ∀ q, (w1.heap.size + 1 ≤ q ∧ q < w3.heap.size) → since w.heap.size q := fun q h => by simp; omega
          exact ⟨_, rfl, pa, pc, la, lc, rfl, (HT.out.1.gb g7 (fun q h _ => hne q h)).mono (fun q h _ => hin q h), (HT.out.2.1.gb g7 (fun q h _ => hne q h)).mono (fun q h _ => hin q h)⟩

end Go.Proofs.YtmcajbhljbbglaaGreatDoor
