/-
  Equality of rows of statements and of blocks in the program: slices.EqualFunc at both.
  Equality of rows of statements in the program: the recursion.
  Programs as plain rows of procedures; Same of the reference.
-/
import Derived.Test.YtmcajbhljbbglaaGreatDoorSs24
set_option linter.all false
set_option linter.unusedVariables false
set_option linter.unusedSimpArgs false
set_option linter.unnecessarySimpa false
set_option linter.constructorNameAsVariable false
set_option linter.deprecated false

namespace Go.Proofs.YtmcajbhljbbglaaGreatDoor
open Go.RowKit

set_option maxRecDepth 40000 in
set_option maxHeartbeats 4000000 in
theorem eqStmts_N (a b : Bl) (la lb : Option Addr) (lc ld : Nat) (w : World) (hf : RepV (fun _ => True) w false (.slice la a.len lc) a) (hg : RepV (fun _ => True) w false (.slice lb b.len ld) b)
    (hE : ∀ (h1 h2 : Sd) (b1 b2 : Bl) (pa1 xa1 na1 fa1 wa1 ba1 pa2 xa2 na2 fa2 wa2 ba2 : Option Addr) (pc1 xc1 nc1 fc1 wc1 bc1 pc2 xc2 nc2 fc2 wc2 bc2 : Nat) (W : World), b1.wt < a.wt → SdRep (fun _ => True) W h1 pa1 xa1 na1 fa1 wa1 pc1 xc1 nc1 fc1 wc1 → SdRep (fun _ => True) W h2 pa2 xa2 na2 fa2 wa2 pc2 xc2 nc2 fc2 wc2 →
      RepV (fun _ => True) W true (.slice ba1 b1.len bc1) b1 → RepV (fun _ => True) W true (.slice ba2 b2.len bc2) b2 →
      Calls Tryz.prog 48 #[.agg (sdC h1 (.slice pa1 h1.p.length pc1) (.slice xa1 h1.x.len xc1) (.slice ba1 b1.len bc1) (.slice na1 h1.n.len nc1) (.slice fa1 h1.f.len fc1) (.slice wa1 h1.w.len wc1)).toArray, .agg (sdC h2 (.slice pa2 h2.p.length pc2) (.slice xa2 h2.x.len xc2) (.slice ba2 b2.len bc2) (.slice na2 h2.n.len nc2) (.slice fa2 h2.f.len fc2) (.slice wa2 h2.w.len wc2)).toArray] W fun e w' => e = .returned (.bool (sdEq h1 h2 && sameB b1 b2)) ∧ W.grownBy w' none) :
    Calls Tryz.prog 47 #[.slice la a.len lc, .slice lb b.len ld, .func (.func 48) #[] #[]] w fun e w' => e = .returned (.bool (sameB a b)) ∧ w.grownBy w' none := by
  by_cases hlen : a.len = b.len
  · obtain ⟨cs, hc1, hr1⟩ := hf
    obtain ⟨ds, hc2, hr2⟩ := hg
    obtain ⟨_, _, e, hle, hmx, _, hc1⟩ := hc1
    cases e
    obtain ⟨_, _, e, _, _, _, hc2⟩ := hc2
    cases e
    have hmax : a.len ≤ maxLen := by omega
    unfold maxLen at hmax
    clear hle hmx
    have hnI : ((a.len : Int) != (b.len : Int)) = false := by simp; omega
    have hnI2 : ((a.len : Int) == (b.len : Int)) = true := by simp; omega
    have HC := Lib.hid (And.intro hc1 (And.intro hc2 (And.intro hE hlen)))
    have HR := Lib.hid (And.intro hr1 hr2)
    clear hc1 hc2 hE hlen hr1 hr2
    go_enter Tryz.func47, Tryz.ntmps47
    go_wp2_with fail
    go_loopg [17] a.len (fun n v17 wr => ∃ rf rg : Bl, ∃ k : Nat, rf.len = n ∧ k + n = a.len ∧ rf.len = rg.len ∧ v17 = .int .i64 k ∧ rf.wt ≤ a.wt ∧ sameB a b = sameB rf rg ∧ RepT (fun _ => True) w rf false (cs.drop (k * 10)) ∧ RepT (fun _ => True) w rg false (ds.drop (k * 10)) ∧ w.grownBy wr none)
    case atStart => exact ⟨a, b, 0, rfl, by omega, HC.out.2.2.2, rfl, Nat.le_refl _, rfl, by simpa using HR.out.1, by simpa using HR.out.2, gb_refl _ _⟩
    case round =>
      obtain ⟨rf, rg, k, hn, hk, hl, rfl, hno, hs, hrf, hrg, hgr⟩ := hrel
      clear HR
      cases rf with
      | bl _ _ => exact hrf.elim
      | nil =>
        cases rg with
        | st _ _ _ => simp [Bl.len] at hl
        | bl _ _ => exact hrg.elim
        | nil =>
          have hkI : decide (k < a.len) = false := by simp [Bl.len] at hn; simp; omega
          have HS := Lib.hid (show sameB a b = true by rw [hs]; rfl)
          have HG := Lib.hid hgr
          clear hs hgr hn hl hrf hrg
          go_wp2
          go_ret
          exact ⟨by rw [HS.out]; rfl, HG.out⟩
      | st h1 b1 n1 =>
        cases rg with
        | nil => simp [Bl.len] at hl
        | bl _ _ => exact hrg.elim
        | st h2 b2 n2 =>
          simp only [Bl.len] at hn hl
          simp only [Bl.wt] at hno
          subst hn
          obtain ⟨pa1, xa1, na1, fa1, wa1, ba1, pc1, xc1, nc1, fc1, wc1, bc1, hp1, hB1, hx1, ha1⟩ := RepT.elem HC.out.1 hrf
          obtain ⟨pa2, xa2, na2, fa2, wa2, ba2, pc2, xc2, nc2, fc2, wc2, bc2, hp2, hB2, hx2, ha2⟩ := RepT.elem HC.out.2.1 hrg
          have hkI : decide (k < a.len) = true := by simp; omega
          have hkg : k < b.len := by have := HC.out.2.2.2; omega
          have hkf : k + 1 ≤ a.len := by omega
          have HS := Lib.hid (And.intro (show sameB a b = ((sdEq h1 h2 && sameB b1 b2) && sameB n1 n2) from hs) (show n1.len = n2.len by omega))
          have HE := Lib.hid (fun (W : World) (gW : wr.grownBy W none) => HC.out.2.2.1 h1 h2 b1 b2 pa1 xa1 na1 fa1 wa1 ba1 pa2 xa2 na2 fa2 wa2 ba2 pc1 xc1 nc1 fc1 wc1 bc1 pc2 xc2 nc2 fc2 wc2 bc2 W (by omega) (hp1.gb (gb_trans hgr gW) (by simp)) (hp2.gb (gb_trans hgr gW) (by simp)) (hB1.gb (gb_trans hgr gW) (by simp)) (hB2.gb (gb_trans hgr gW) (by simp)))
          simp only [sdC] at HE
          have HN := Lib.hid (And.intro (show n1.wt ≤ a.wt by omega) (And.intro hx1 (And.intro hx2 hgr)))
          clear hs hl hno hrf hrg hp1 hB1 hx1 hp2 hB2 hx2
          obtain ⟨g1, o1, rfl, hokz, y0⟩ := ha1 0 _ rfl
          obtain ⟨_, _, e1, _, y1⟩ := ha1 1 _ rfl
          cases e1
          obtain ⟨_, _, e1, _, y2⟩ := ha1 2 _ rfl
          cases e1
          obtain ⟨_, _, e1, _, y3⟩ := ha1 3 _ rfl
          cases e1
          obtain ⟨_, _, e1, _, y4⟩ := ha1 4 _ rfl
          cases e1
          obtain ⟨_, _, e1, _, y5⟩ := ha1 5 _ rfl
          cases e1
          obtain ⟨_, _, e1, _, y6⟩ := ha1 6 _ rfl
          cases e1
          obtain ⟨_, _, e1, _, y7⟩ := ha1 7 _ rfl
          cases e1
          obtain ⟨_, _, e1, _, y8⟩ := ha1 8 _ rfl
          cases e1
          obtain ⟨_, _, e1, _, y9⟩ := ha1 9 _ rfl
          cases e1
          have hglz := World.block_lt_of_cell? w _ y0
          have z0 := gb_cellN hgr y0
          have z1 := gb_cellN hgr y1
          have z2 := gb_cellN hgr y2
          have z3 := gb_cellN hgr y3
          have z4 := gb_cellN hgr y4
          have z5 := gb_cellN hgr y5
          have z6 := gb_cellN hgr y6
          have z7 := gb_cellN hgr y7
          have z8 := gb_cellN hgr y8
          have z9 := gb_cellN hgr y9
          simp only [Nat.add_zero, ← Nat.add_assoc] at z0 z1 z2 z3 z4 z5 z6 z7 z8 z9
          clear y0 y1 y2 y3 y4 y5 y6 y7 y8 y9
          obtain ⟨g2, o2, rfl, hokt, y0⟩ := ha2 0 _ rfl
          obtain ⟨_, _, e1, _, y1⟩ := ha2 1 _ rfl
          cases e1
          obtain ⟨_, _, e1, _, y2⟩ := ha2 2 _ rfl
          cases e1
          obtain ⟨_, _, e1, _, y3⟩ := ha2 3 _ rfl
          cases e1
          obtain ⟨_, _, e1, _, y4⟩ := ha2 4 _ rfl
          cases e1
          obtain ⟨_, _, e1, _, y5⟩ := ha2 5 _ rfl
          cases e1
          obtain ⟨_, _, e1, _, y6⟩ := ha2 6 _ rfl
          cases e1
          obtain ⟨_, _, e1, _, y7⟩ := ha2 7 _ rfl
          cases e1
          obtain ⟨_, _, e1, _, y8⟩ := ha2 8 _ rfl
          cases e1
          obtain ⟨_, _, e1, _, y9⟩ := ha2 9 _ rfl
          cases e1
          have hglt := World.block_lt_of_cell? w _ y0
          have t0 := gb_cellN hgr y0
          have t1 := gb_cellN hgr y1
          have t2 := gb_cellN hgr y2
          have t3 := gb_cellN hgr y3
          have t4 := gb_cellN hgr y4
          have t5 := gb_cellN hgr y5
          have t6 := gb_cellN hgr y6
          have t7 := gb_cellN hgr y7
          have t8 := gb_cellN hgr y8
          have t9 := gb_cellN hgr y9
          simp only [Nat.add_zero, ← Nat.add_assoc] at t0 t1 t2 t3 t4 t5 t6 t7 t8 t9
          clear y0 y1 y2 y3 y4 y5 y6 y7 y8 y9
          clear ha1 ha2 hgr
          have hws := HN.out.2.2.2.size
          have hq1 : g1 < wr.heap.size := Nat.lt_of_lt_of_le hglz hws
          have hq2 : g2 < wr.heap.size := Nat.lt_of_lt_of_le hglt hws
          cases hb : (sdEq h1 h2 && sameB b1 b2) with
          | true =>
            rw [hb] at HE
            have HB := Lib.hid (show sameB a b = sameB n1 n2 by rw [HS.out.1, hb]; rfl)
            clear hb
            go_wp2_with fail
            refine (HE.out _ ?gg).mono ?_
            case gg => exact (by repeat (first | (with_reducible exact gb_refl _ _) | (with_reducible assumption) | (with_reducible exact gb_none (by assumption)) | (with_reducible refine gb_alloc ?_ _) | (with_reducible refine gb_drew ?_) | (with_reducible refine gb_drewN ?_ _) | ((with_reducible refine gb_set ?_ _ _ ?h2); case h2 => first | exact .inl rfl | exact .inr (Nat.le_refl _) | exact .inr (by simp <;> omega)) | (with_reducible refine gb_sub ?_ (by assumption)) | (with_reducible refine gb_trans ?_ (by assumption))))
            rintro e w5 ⟨rfl, g5⟩
            have gg := gb_trans HN.out.2.2.2 (gb_trans (by repeat (first | (with_reducible exact gb_refl _ _) | (with_reducible assumption) | (with_reducible exact gb_none (by assumption)) | (with_reducible refine gb_alloc ?_ _) | (with_reducible refine gb_drew ?_) | (with_reducible refine gb_drewN ?_ _) | ((with_reducible refine gb_set ?_ _ _ ?h2); case h2 => first | exact .inl rfl | exact .inr (Nat.le_refl _) | exact .inr (by simp <;> omega)) | (with_reducible refine gb_sub ?_ (by assumption)) | (with_reducible refine gb_trans ?_ (by assumption)))) g5)
            have HG := Lib.hid gg
            clear gg g5
            go_wp2
            go_roundg n1.len
            case measure => omega
            case rel => exact ⟨n1, n2, k + 1, rfl, by omega, HS.out.2, by go_num, HN.out.1, HB.out, HN.out.2.1, HN.out.2.2.1, HG.out⟩
          | false =>
            rw [hb] at HE
            have HB := Lib.hid (show sameB a b = false by rw [HS.out.1, hb]; rfl)
            clear hb
            go_wp2_with fail
            refine (HE.out _ ?gg2).mono ?_
            case gg2 => exact (by repeat (first | (with_reducible exact gb_refl _ _) | (with_reducible assumption) | (with_reducible exact gb_none (by assumption)) | (with_reducible refine gb_alloc ?_ _) | (with_reducible refine gb_drew ?_) | (with_reducible refine gb_drewN ?_ _) | ((with_reducible refine gb_set ?_ _ _ ?h2); case h2 => first | exact .inl rfl | exact .inr (Nat.le_refl _) | exact .inr (by simp <;> omega)) | (with_reducible refine gb_sub ?_ (by assumption)) | (with_reducible refine gb_trans ?_ (by assumption))))
            rintro e w5 ⟨rfl, g5⟩
            have gg := gb_trans HN.out.2.2.2 (gb_trans (by repeat (first | (with_reducible exact gb_refl _ _) | (with_reducible assumption) | (with_reducible exact gb_none (by assumption)) | (with_reducible refine gb_alloc ?_ _) | (with_reducible refine gb_drew ?_) | (with_reducible refine gb_drewN ?_ _) | ((with_reducible refine gb_set ?_ _ _ ?h2); case h2 => first | exact .inl rfl | exact .inr (Nat.le_refl _) | exact .inr (by simp <;> omega)) | (with_reducible refine gb_sub ?_ (by assumption)) | (with_reducible refine gb_trans ?_ (by assumption)))) g5)
            have HG := Lib.hid gg
            clear gg g5
            go_wp2
            go_ret
            exact ⟨by rw [HB.out]; rfl, HG.out⟩
  · have hnI : ((a.len : Int) != (b.len : Int)) = true := by simp; omega
    have hnI2 : ((a.len : Int) == (b.len : Int)) = false := by simp; omega
    have HN := Lib.hid (show sameB a b = false by cases h : sameB a b with | false => rfl | true => exact absurd (sameB_len h) hlen)
    clear hlen hf hg hE
    go_enter Tryz.func47, Tryz.ntmps47
    go_wp2
    go_ret
    exact ⟨by rw [HN.out]; rfl, (by repeat (first | (with_reducible exact gb_refl _ _) | (with_reducible assumption) | (with_reducible exact gb_none (by assumption)) | (with_reducible refine gb_alloc ?_ _) | (with_reducible refine gb_drew ?_) | (with_reducible refine gb_drewN ?_ _) | ((with_reducible refine gb_set ?_ _ _ ?h2); case h2 => first | exact .inl rfl | exact .inr (Nat.le_refl _) | exact .inr (by simp <;> omega)) | (with_reducible refine gb_sub ?_ (by assumption)) | (with_reducible refine gb_trans ?_ (by assumption))))⟩


set_option maxRecDepth 40000 in
set_option maxHeartbeats 4000000 in
theorem eqBlocks_N (a b : Bl) (la lb : Option Addr) (lc ld : Nat) (w : World) (hf : RepV (fun _ => True) w true (.slice la a.len lc) a) (hg : RepV (fun _ => True) w true (.slice lb b.len ld) b)
    (hE : ∀ (q1 q2 : Bl) (qa1 qa2 : Option Addr) (qc1 qc2 : Nat) (W : World), q1.wt < a.wt → RepV (fun _ => True) W false (.slice qa1 q1.len qc1) q1 → RepV (fun _ => True) W false (.slice qa2 q2.len qc2) q2 →
      Calls Tryz.prog 79 #[.slice qa1 q1.len qc1, .slice qa2 q2.len qc2] W fun e w' => e = .returned (.bool (sameB q1 q2)) ∧ W.grownBy w' none) :
    Calls Tryz.prog 78 #[.slice la a.len lc, .slice lb b.len ld, .func (.func 79) #[] #[]] w fun e w' => e = .returned (.bool (sameB a b)) ∧ w.grownBy w' none := by
  by_cases hlen : a.len = b.len
  · obtain ⟨cs, hc1, hr1⟩ := hf
    obtain ⟨ds, hc2, hr2⟩ := hg
    obtain ⟨_, _, e, hle, hmx, _, hc1⟩ := hc1
    cases e
    obtain ⟨_, _, e, _, _, _, hc2⟩ := hc2
    cases e
    have hmax : a.len ≤ maxLen := by omega
    unfold maxLen at hmax
    clear hle hmx
    have hnI : ((a.len : Int) != (b.len : Int)) = false := by simp; omega
    have hnI2 : ((a.len : Int) == (b.len : Int)) = true := by simp; omega
    have HC := Lib.hid (And.intro hc1 (And.intro hc2 (And.intro hE hlen)))
    have HR := Lib.hid (And.intro hr1 hr2)
    clear hc1 hc2 hE hlen hr1 hr2
    go_enter Tryz.func78, Tryz.ntmps78
    go_wp2_with fail
    go_loopg [17] a.len (fun n v17 wr => ∃ rf rg : Bl, ∃ k : Nat, rf.len = n ∧ k + n = a.len ∧ rf.len = rg.len ∧ v17 = .int .i64 k ∧ rf.wt ≤ a.wt ∧ sameB a b = sameB rf rg ∧ RepT (fun _ => True) w rf true (cs.drop k) ∧ RepT (fun _ => True) w rg true (ds.drop k) ∧ w.grownBy wr none)
    case atStart => exact ⟨a, b, 0, rfl, by omega, HC.out.2.2.2, rfl, Nat.le_refl _, rfl, by simpa using HR.out.1, by simpa using HR.out.2, gb_refl _ _⟩
    case round =>
      obtain ⟨rf, rg, k, hn, hk, hl, rfl, hno, hs, hrf, hrg, hgr⟩ := hrel
      clear HR
      cases rf with
      | st _ _ _ => exact hrf.elim
      | nil =>
        cases rg with
        | bl _ _ => simp [Bl.len] at hl
        | st _ _ _ => exact hrg.elim
        | nil =>
          have hkI : decide (k < a.len) = false := by simp [Bl.len] at hn; simp; omega
          have HS := Lib.hid (show sameB a b = true by rw [hs]; rfl)
          have HG := Lib.hid hgr
          clear hs hgr hn hl hrf hrg
          go_wp2
          go_ret
          exact ⟨by rw [HS.out]; rfl, HG.out⟩
      | bl b1 n1 =>
        cases rg with
        | nil => simp [Bl.len] at hl
        | st _ _ _ => exact hrg.elim
        | bl b2 n2 =>
          simp only [Bl.len] at hn hl
          simp only [Bl.wt] at hno
          subst hn
          obtain ⟨ba1, bc1, hB1, hx1, g1, o1, e1, _, ha1⟩ := RepT.elemB HC.out.1 hrf
          obtain ⟨ba2, bc2, hB2, hx2, g2, o2, e2, _, ha2⟩ := RepT.elemB HC.out.2.1 hrg
          subst e1 e2
          have hkI : decide (k < a.len) = true := by simp; omega
          have hkg : k < b.len := by have := HC.out.2.2.2; omega
          have hkf : k + 1 ≤ a.len := by omega
          have HS := Lib.hid (And.intro (show sameB a b = (sameB b1 b2 && sameB n1 n2) from hs) (show n1.len = n2.len by omega))
          have HE := Lib.hid (fun (W : World) (gW : wr.grownBy W none) => HC.out.2.2.1 b1 b2 ba1 ba2 bc1 bc2 W (by omega) (hB1.gb (gb_trans hgr gW) (by simp)) (hB2.gb (gb_trans hgr gW) (by simp)))
          have HN := Lib.hid (And.intro (show n1.wt ≤ a.wt by omega) (And.intro hx1 (And.intro hx2 hgr)))
          have hglz := World.block_lt_of_cell? w _ ha1
          have hglt := World.block_lt_of_cell? w _ ha2
          have z0 := gb_cellN hgr ha1
          have t0 := gb_cellN hgr ha2
          clear hs hl hno hrf hrg hB1 hx1 hB2 hx2 ha1 ha2 hgr
          have hws := HN.out.2.2.2.size
          have hq1 : g1 < wr.heap.size := Nat.lt_of_lt_of_le hglz hws
          have hq2 : g2 < wr.heap.size := Nat.lt_of_lt_of_le hglt hws
          cases hb : sameB b1 b2 with
          | true =>
            rw [hb] at HE
            have HB := Lib.hid (show sameB a b = sameB n1 n2 by rw [HS.out.1, hb]; rfl)
            clear hb
            go_wp2_with fail
            refine (HE.out _ ?gg).mono ?_
            case gg => exact (by repeat (first | (with_reducible exact gb_refl _ _) | (with_reducible assumption) | (with_reducible exact gb_none (by assumption)) | (with_reducible refine gb_alloc ?_ _) | (with_reducible refine gb_drew ?_) | (with_reducible refine gb_drewN ?_ _) | ((with_reducible refine gb_set ?_ _ _ ?h2); case h2 => first | exact .inl rfl | exact .inr (Nat.le_refl _) | exact .inr (by simp <;> omega)) | (with_reducible refine gb_sub ?_ (by assumption)) | (with_reducible refine gb_trans ?_ (by assumption))))
            rintro e w5 ⟨rfl, g5⟩
            have gg := gb_trans HN.out.2.2.2 (gb_trans (by repeat (first | (with_reducible exact gb_refl _ _) | (with_reducible assumption) | (with_reducible exact gb_none (by assumption)) | (with_reducible refine gb_alloc ?_ _) | (with_reducible refine gb_drew ?_) | (with_reducible refine gb_drewN ?_ _) | ((with_reducible refine gb_set ?_ _ _ ?h2); case h2 => first | exact .inl rfl | exact .inr (Nat.le_refl _) | exact .inr (by simp <;> omega)) | (with_reducible refine gb_sub ?_ (by assumption)) | (with_reducible refine gb_trans ?_ (by assumption)))) g5)
            have HG := Lib.hid gg
            clear gg g5
            go_wp2
            go_roundg n1.len
            case measure => omega
            case rel => exact ⟨n1, n2, k + 1, rfl, by omega, HS.out.2, by go_num, HN.out.1, HB.out, HN.out.2.1, HN.out.2.2.1, HG.out⟩
          | false =>
            rw [hb] at HE
            have HB := Lib.hid (show sameB a b = false by rw [HS.out.1, hb]; rfl)
            clear hb
            go_wp2_with fail
            refine (HE.out _ ?gg2).mono ?_
            case gg2 => exact (by repeat (first | (with_reducible exact gb_refl _ _) | (with_reducible assumption) | (with_reducible exact gb_none (by assumption)) | (with_reducible refine gb_alloc ?_ _) | (with_reducible refine gb_drew ?_) | (with_reducible refine gb_drewN ?_ _) | ((with_reducible refine gb_set ?_ _ _ ?h2); case h2 => first | exact .inl rfl | exact .inr (Nat.le_refl _) | exact .inr (by simp <;> omega)) | (with_reducible refine gb_sub ?_ (by assumption)) | (with_reducible refine gb_trans ?_ (by assumption))))
            rintro e w5 ⟨rfl, g5⟩
            have gg := gb_trans HN.out.2.2.2 (gb_trans (by repeat (first | (with_reducible exact gb_refl _ _) | (with_reducible assumption) | (with_reducible exact gb_none (by assumption)) | (with_reducible refine gb_alloc ?_ _) | (with_reducible refine gb_drew ?_) | (with_reducible refine gb_drewN ?_ _) | ((with_reducible refine gb_set ?_ _ _ ?h2); case h2 => first | exact .inl rfl | exact .inr (Nat.le_refl _) | exact .inr (by simp <;> omega)) | (with_reducible refine gb_sub ?_ (by assumption)) | (with_reducible refine gb_trans ?_ (by assumption)))) g5)
            have HG := Lib.hid gg
            clear gg g5
            go_wp2
            go_ret
            exact ⟨by rw [HB.out]; rfl, HG.out⟩
  · have hnI : ((a.len : Int) != (b.len : Int)) = true := by simp; omega
    have hnI2 : ((a.len : Int) == (b.len : Int)) = false := by simp; omega
    have HN := Lib.hid (show sameB a b = false by cases h : sameB a b with | false => rfl | true => exact absurd (sameB_len h) hlen)
    clear hlen hf hg hE
    go_enter Tryz.func78, Tryz.ntmps78
    go_wp2
    go_ret
    exact ⟨by rw [HN.out]; rfl, (by repeat (first | (with_reducible exact gb_refl _ _) | (with_reducible assumption) | (with_reducible exact gb_none (by assumption)) | (with_reducible refine gb_alloc ?_ _) | (with_reducible refine gb_drew ?_) | (with_reducible refine gb_drewN ?_ _) | ((with_reducible refine gb_set ?_ _ _ ?h2); case h2 => first | exact .inl rfl | exact .inr (Nat.le_refl _) | exact .inr (by simp <;> omega)) | (with_reducible refine gb_sub ?_ (by assumption)) | (with_reducible refine gb_trans ?_ (by assumption))))⟩


end Go.Proofs.YtmcajbhljbbglaaGreatDoor

namespace Go.Proofs.YtmcajbhljbbglaaGreatDoor
open Go.RowKit

theorem RepT.mono {w : World} {ok ok' : Nat → Prop} (hk : ∀ k, ok k → k < w.heap.size → ok' k) : ∀ {b : Bl} {k : Bool} {cs : List Value}, RepT ok w b k cs → RepT ok' w b k cs := by
  intro b
  induction b with
  | nil => intro k cs h; exact h
  | st h b n ih1 ih2 =>
    intro k cs hr
    cases k with
    | true => exact hr
    | false =>
      obtain ⟨pa, xa, na, fa, wa, ba, pc, xc, nc, fc, wc, bc, kcs, rest, e, h1, h2, h3, h4⟩ := hr
      exact ⟨pa, xa, na, fa, wa, ba, pc, xc, nc, fc, wc, bc, kcs, rest, e, ⟨h1.p.mono hk, h1.x.mono hk, h1.n.mono hk, h1.f.mono hk, h1.w.mono hk⟩, h2.mono hk, ih1 h3, ih2 h4⟩
  | bl b n ih1 ih2 =>
    intro k cs hr
    cases k with
    | false => exact hr
    | true =>
      obtain ⟨ba, bc, kcs, rest, e, h2, h3, h4⟩ := hr
      exact ⟨ba, bc, kcs, rest, e, h2.mono hk, ih1 h3, ih2 h4⟩
theorem RepV.all {w : World} {ok : Nat → Prop} {k : Bool} {v : Value} {b : Bl} (h : RepV ok w k v b) : RepV (fun _ => True) w k v b := by
  obtain ⟨cs, h1, h2⟩ := h
  exact ⟨cs, h1.mono (fun _ _ _ => trivial), h2.mono (fun _ _ _ => trivial)⟩

set_option maxRecDepth 20000 in
set_option maxHeartbeats 1000000 in
theorem sameStmt1_any {w : World} {a1 a2 : Option Addr} {n1 n2 c1 c2 : Nat} {b : Bool}
    (H : Calls Tryz.prog 47 #[.slice a1 n1 c1, .slice a2 n2 c2, .func (.func 48) #[] #[]] w fun e w' => e = .returned (.bool b) ∧ w.grownBy w' none) :
    Calls Tryz.prog 79 #[.slice a1 n1 c1, .slice a2 n2 c2] w fun e w' => e = .returned (.bool b) ∧ w.grownBy w' none := by
  have HH := Lib.hid H
  clear H
  go_enter Tryz.func79, Tryz.ntmps79
  go_wp2_with fail
  refine HH.out.mono ?_
  rintro e w1 ⟨rfl, g1⟩
  go_wp2
  go_ret
  exact ⟨rfl, g1⟩

theorem eqStmts_any : ∀ (N : Nat) (a b : Bl), a.wt < N → ∀ (la lb : Option Addr) (lc ld : Nat) (w : World), RepV (fun _ => True) w false (.slice la a.len lc) a → RepV (fun _ => True) w false (.slice lb b.len ld) b →
    Calls Tryz.prog 47 #[.slice la a.len lc, .slice lb b.len ld, .func (.func 48) #[] #[]] w fun e w' => e = .returned (.bool (sameB a b)) ∧ w.grownBy w' none := by
  intro N
  induction N with
  | zero => intro a b hN; omega
  | succ N ih =>
    intro a b hN la lb lc ld w ha hb
    refine eqStmts_N a b la lb lc ld w ha hb ?_
    intro h1 h2 b1 b2 pa1 xa1 na1 fa1 wa1 ba1 pa2 xa2 na2 fa2 wa2 ba2 pc1 xc1 nc1 fc1 wc1 bc1 pc2 xc2 nc2 fc2 wc2 bc2 W hk hp1 hp2 hB1 hB2
    refine sameStmt_step hp1 hp2 (fun W2 g2 => ?_)
    refine eqBlocks_N b1 b2 ba1 ba2 bc1 bc2 W2 (hB1.gb g2 (by simp)) (hB2.gb g2 (by simp)) ?_
    intro q1 q2 qa1 qa2 qc1 qc2 W3 hq hr1 hr2
    exact sameStmt1_any (ih q1 q2 (by omega) qa1 qa2 qc1 qc2 W3 hr1 hr2)

end Go.Proofs.YtmcajbhljbbglaaGreatDoor

namespace Go.Proofs.YtmcajbhljbbglaaGreatDoor
open Go.RowKit

structure Pd where
  name : Bs
  fn : Bool
  p : List Bs
  body : Bl

def pdEq (a b : Pd) : Bool := ((a.name == b.name && (a.fn == b.fn)) && textsEq a.p b.p) && sameB a.body b.body
def sameP : List Pd → List Pd → Bool
  | [], [] => true
  | a :: r, b :: s => pdEq a b && sameP r s
  | _, _ => false
theorem pdEq_refl (a : Pd) : pdEq a a = true := by simp [pdEq, textsEq, sameB_refl]
theorem sameP_refl : ∀ l : List Pd, sameP l l = true := by
  intro l
  induction l with
  | nil => rfl
  | cons a r ih => simp [sameP, pdEq_refl, ih]
theorem sameP_len : ∀ {l m : List Pd}, sameP l m = true → l.length = m.length := by
  intro l
  induction l with
  | nil => intro m h; cases m <;> first | rfl | cases h
  | cons a r ih =>
    intro m h
    cases m with
    | nil => cases h
    | cons b s =>
      simp only [sameP, Bool.and_eq_true] at h
      simp [ih h.2]

def pdC (h : Pd) (pv bv : Value) : List Value := [str h.name, .bool h.fn, pv, bv]
def RepP (ok : Nat → Prop) (w : World) : List Pd → List Value → Prop
  | [], cs => cs = []
  | h :: r, cs => ∃ pa ba, ∃ pc bc, ∃ rest, cs = pdC h (.slice pa h.p.length pc) (.slice ba h.body.len bc) ++ rest ∧ Cells w (.slice pa h.p.length pc) 1 h.p.length (h.p.map str) ok ∧ RepV ok w false (.slice ba h.body.len bc) h.body ∧ RepP ok w r rest
/-- v is a slice of the procedures l -/
def RepQ (ok : Nat → Prop) (w : World) (v : Value) (l : List Pd) : Prop := ∃ cs, Cells w v 4 l.length cs ok ∧ RepP ok w l cs
theorem RepP.gb {w w1 : World} {ok : Nat → Prop} {r : Option Nat} (g : w.grownBy w1 r) (hk : ∀ k, ok k → k < w.heap.size → some k ≠ r) : ∀ {l : List Pd} {cs : List Value}, RepP ok w l cs → RepP ok w1 l cs := by
  intro l
  induction l with
  | nil => intro cs h; exact h
  | cons a s ih =>
    rintro cs ⟨pa, ba, pc, bc, rest, e, h1, h2, h3⟩
    exact ⟨pa, ba, pc, bc, rest, e, h1.gb g hk, h2.gb g hk, ih h3⟩
theorem RepQ.gb {w w1 : World} {ok : Nat → Prop} {r : Option Nat} {v : Value} {l : List Pd} (h : RepQ ok w v l) (g : w.grownBy w1 r) (hk : ∀ k, ok k → k < w.heap.size → some k ≠ r) : RepQ ok w1 v l := by
  obtain ⟨cs, h1, h2⟩ := h
  exact ⟨cs, h1.gb g hk, h2.gb g hk⟩
theorem RepP.elem {ok : Nat → Prop} {w : World} {la : Option Addr} {cs : List Value} {h : Pd} {r : List Pd} {k : Nat} (hc : ∀ j u, cs[j]? = some u → ∃ g o, la = some ⟨g, o, none⟩ ∧ ok g ∧ w.cell? ⟨g, o + j, none⟩ = some u)
    (hr : RepP ok w (h :: r) (cs.drop (k * 4))) : ∃ pa ba, ∃ pc bc, Cells w (.slice pa h.p.length pc) 1 h.p.length (h.p.map str) ok ∧ RepV ok w false (.slice ba h.body.len bc) h.body ∧ RepP ok w r (cs.drop ((k + 1) * 4)) ∧
      ∀ i u, (pdC h (.slice pa h.p.length pc) (.slice ba h.body.len bc))[i]? = some u → ∃ g o, la = some ⟨g, o, none⟩ ∧ ok g ∧ w.cell? ⟨g, o + (k * 4 + i), none⟩ = some u := by
  obtain ⟨pa, ba, pc, bc, rest, e, h1, h2, h3⟩ := hr
  exact ⟨pa, ba, pc, bc, h1, h2, (drop_next (n := 4) rfl e) ▸ h3, fun i u hu => hc _ u (get_drop e hu)⟩

theorem sameBlock_any {w : World} {ok ok' : Nat → Prop} {la lb : Option Addr} {lc ld : Nat} {a b : Bl} (ha : RepV ok w false (.slice la a.len lc) a) (hb : RepV ok' w false (.slice lb b.len ld) b) :
    Calls Tryz.prog 40 #[.slice la a.len lc, .slice lb b.len ld] w fun e w' => e = .returned (.bool (sameB a b)) ∧ w.grownBy w' none :=
  sameBlock_N _ a b (Nat.lt_succ_self _) ok ok' la lb lc ld w ha hb

end Go.Proofs.YtmcajbhljbbglaaGreatDoor
