/-
  heavyStmts: it returns, and leaves what was there.
  overProgram: it returns, and leaves what was there.
  TreeSames: the walk.
-/
import Derived.Test.YtmcajbhljbbglaaGreatDoorSs23
import Derived.Test.YtmcajbhljbbglaaGreatDoorSs25
import Derived.Test.YtmcajbhljbbglaaGreatDoorSs26
set_option linter.all false
set_option linter.unusedVariables false
set_option linter.unusedSimpArgs false
set_option linter.unnecessarySimpa false
set_option linter.constructorNameAsVariable false
set_option linter.deprecated false

namespace Go.Proofs.YtmcajbhljbbglaaGreatDoor
open Go.RowKit

theorem six_gb {w W W1 : World} {a m : Nat} {u0 u1 u2 u3 u4 u5 : Value} (h : W.cell? ⟨a, m + 1, none⟩ = some u0 ∧ W.cell? ⟨a, m + 2, none⟩ = some u1 ∧ W.cell? ⟨a, m + 4, none⟩ = some u2 ∧ W.cell? ⟨a, m + 7, none⟩ = some u3 ∧ W.cell? ⟨a, m + 8, none⟩ = some u4 ∧ W.cell? ⟨a, m + 9, none⟩ = some u5 ∧ w.grownBy W none) (g : W.grownBy W1 none) : W1.cell? ⟨a, m + 1, none⟩ = some u0 ∧ W1.cell? ⟨a, m + 2, none⟩ = some u1 ∧ W1.cell? ⟨a, m + 4, none⟩ = some u2 ∧ W1.cell? ⟨a, m + 7, none⟩ = some u3 ∧ W1.cell? ⟨a, m + 8, none⟩ = some u4 ∧ W1.cell? ⟨a, m + 9, none⟩ = some u5 ∧ w.grownBy W1 none := by
  obtain ⟨h0, h1, h2, h3, h4, h5, k⟩ := h
  exact ⟨gb_cellN g h0, gb_cellN g h1, gb_cellN g h2, gb_cellN g h3, gb_cellN g h4, gb_cellN g h5, gb_trans k g⟩

set_option maxRecDepth 40000 in
set_option maxHeartbeats 8000000 in
theorem heavyStmts_N : ∀ (N : Nat) (a : Bl), a.wt < N → ∀ (ok : Nat → Prop) (la : Option Addr) (lc : Nat) (w : World), RepV ok w false (.slice la a.len lc) a →
    Calls Tryz.prog 44 #[.slice la a.len lc] w (SomeN w) := by
  intro N
  induction N with
  | zero => intro a hN; omega
  | succ N ih =>
    intro a hN ok la lc w ha
    obtain ⟨cs, hc1, hr1⟩ := ha
    obtain ⟨_, _, e, hle, hmx, _, hc1⟩ := hc1
    cases e
    have hmax : a.len ≤ maxLen := by omega
    unfold maxLen at hmax
    clear hle hmx
    have HC := Lib.hid (And.intro hc1 ih)
    have HR := Lib.hid hr1
    clear hc1 ih hr1
    go_enter Tryz.func44, Tryz.ntmps44
    go_wp2_with fail
    go_loopg [3, 4] a.len (fun g v3 v4 wr => ∃ ra : Bl, ∃ k : Nat, ∃ n : Int, ra.len = g ∧ k + g = a.len ∧ v3 = .int .i64 n ∧ v4 = .int .i64 k ∧ ra.wt ≤ a.wt ∧ RepT ok w ra false (cs.drop (k * 10)) ∧ w.grownBy wr none)
    case atStart => exact ⟨a, 0, _, rfl, by omega, rfl, rfl, Nat.le_refl _, by simpa using HR.out, gb_refl _ _⟩
    case round =>
      obtain ⟨ra, k, n, hn, hk, rfl, rfl, hno, hra, hgr⟩ := hrel
      clear HR
      cases ra with
      | bl _ _ => exact hra.elim
      | nil =>
        have hkI : decide (k < a.len) = false := by simp [Bl.len] at hn; simp; omega
        have HG := Lib.hid hgr
        clear hgr hn hra
        go_wp2
        go_ret
        exact ⟨_, rfl, HG.out⟩
      | st h1 b1 n1 =>
        simp only [Bl.len] at hn
        simp only [Bl.wt] at hno
        subst hn
        have hkI : decide (k < a.len) = true := by simp; omega
        by_cases hlim : n < 65536
        · have hnI : decide (n < 65536) = true := by simpa using hlim
          obtain ⟨pa1, xa1, na1, fa1, wa1, ba1, pc1, xc1, nc1, fc1, wc1, bc1, hp1, hB1, hx1, ha1⟩ := RepT.elem HC.out.1 hra
          have hkf : k + 1 ≤ a.len := by omega
          have i0 : (0 : Int) ≤ (k : Int) := by omega
          have i1 : (k : Int) < (a.len : Int) := by omega
          have i2 : k < a.len := by omega
          have HE := Lib.hid (fun (W : World) (gW : wr.grownBy W none) => And.intro (heavy_N _ h1.x (Nat.lt_succ_self _) ok xa1 xc1 W (hp1.x.gb (gb_trans hgr gW) (by simp))) (And.intro (heavy_N _ h1.n (Nat.lt_succ_self _) ok na1 nc1 W (hp1.n.gb (gb_trans hgr gW) (by simp))) (And.intro (heavy_N _ h1.f (Nat.lt_succ_self _) ok fa1 fc1 W (hp1.f.gb (gb_trans hgr gW) (by simp))) (heavy_N _ h1.w (Nat.lt_succ_self _) ok wa1 wc1 W (hp1.w.gb (gb_trans hgr gW) (by simp))))))
          have hpm : h1.p.length ≤ maxLen := by obtain ⟨_, _, e, h3, h4, _⟩ := hp1.p; omega
          have hbm : b1.len ≤ maxLen := by obtain ⟨_, ⟨_, _, e, h3, h4, _⟩, _⟩ := hB1; omega
          unfold maxLen at hpm hbm
          obtain ⟨kcs, hkc, hkr⟩ := hB1
          obtain ⟨_, _, e, _, _, _, hkc⟩ := hkc
          cases e
          have HN := Lib.hid (And.intro (show n1.wt ≤ a.wt ∧ b1.wt < N by omega) (And.intro hx1 (And.intro hgr (And.intro hp1.p.at1.2 (And.intro hkc hkr)))))
          clear hno hra hp1 hkc hkr hx1
          obtain ⟨g1, o1, rfl, hokz, y0⟩ := ha1 0 _ rfl
          obtain ⟨_, _, e1, _, y1⟩ := ha1 1 _ rfl
          cases e1
          obtain ⟨_, _, e1, _, y2⟩ := ha1 2 _ rfl
          cases e1
          obtain ⟨_, _, e1, _, y3⟩ := ha1 3 _ rfl
          cases e1
          obtain ⟨_, _, e1, _, y4⟩ := ha1 4 _ rfl
          cases e1
          obtain ⟨_, _, e1, _, y5⟩ := ha1 5 _ rfl
          cases e1
          obtain ⟨_, _, e1, _, y6⟩ := ha1 6 _ rfl
          cases e1
          obtain ⟨_, _, e1, _, y7⟩ := ha1 7 _ rfl
          cases e1
          obtain ⟨_, _, e1, _, y8⟩ := ha1 8 _ rfl
          cases e1
          obtain ⟨_, _, e1, _, y9⟩ := ha1 9 _ rfl
          cases e1
          have hglz := World.block_lt_of_cell? w _ y0
          have z0 := gb_cellN hgr y0
          have z1 := gb_cellN hgr y1
          have z2 := gb_cellN hgr y2
          have z3 := gb_cellN hgr y3
          have z4 := gb_cellN hgr y4
          have z5 := gb_cellN hgr y5
          have z6 := gb_cellN hgr y6
          have z7 := gb_cellN hgr y7
          have z8 := gb_cellN hgr y8
          have z9 := gb_cellN hgr y9
          simp only [Nat.add_zero, ← Nat.add_assoc] at z0 z1 z2 z3 z4 z5 z6 z7 z8 z9
          clear y0 y1 y2 y3 y4 y5 y6 y7 y8 y9
          have hws := hgr.size
          clear ha1 hgr
          have HK := Lib.hid (fun (W : World) (g : wr.grownBy W none) => (show W.cell? ⟨g1, o1 + k * 10 + 1, none⟩ = some (str h1.s) ∧ W.cell? ⟨g1, o1 + k * 10 + 2, none⟩ = some (str h1.t) ∧ W.cell? ⟨g1, o1 + k * 10 + 4, none⟩ = some (.slice xa1 h1.x.len xc1) ∧ W.cell? ⟨g1, o1 + k * 10 + 7, none⟩ = some (.slice na1 h1.n.len nc1) ∧ W.cell? ⟨g1, o1 + k * 10 + 8, none⟩ = some (.slice fa1 h1.f.len fc1) ∧ W.cell? ⟨g1, o1 + k * 10 + 9, none⟩ = some (.slice wa1 h1.w.len wc1) ∧ wr.grownBy W none from ⟨gb_cellN g z1, gb_cellN g z2, gb_cellN g z4, gb_cellN g z7, gb_cellN g z8, gb_cellN g z9, g⟩))
          have HZ := Lib.hid (And.intro z3 z5)
          clear z0 z1 z2 z3 z4 z5 z6 z7 z8 z9
          go_upto_region 5 with fail
          go_cut [3] (fun v3 wx => ∃ n : Int, v3 = .int .i64 n ∧ wr.grownBy wx none)
          case first =>
            go_region_held3 (fun W => W.cell? ⟨g1, o1 + k * 10 + 1, none⟩ = some (str h1.s) ∧ W.cell? ⟨g1, o1 + k * 10 + 2, none⟩ = some (str h1.t) ∧ W.cell? ⟨g1, o1 + k * 10 + 4, none⟩ = some (.slice xa1 h1.x.len xc1) ∧ W.cell? ⟨g1, o1 + k * 10 + 7, none⟩ = some (.slice na1 h1.n.len nc1) ∧ W.cell? ⟨g1, o1 + k * 10 + 8, none⟩ = some (.slice fa1 h1.f.len fc1) ∧ W.cell? ⟨g1, o1 + k * 10 + 9, none⟩ = some (.slice wa1 h1.w.len wc1) ∧ wr.grownBy W none) (first | exact HK.out _ (gb_drew (gb_refl wr none)) | exact six_gb (by assumption) g5) (first | (go_at_call 41; (with_reducible refine ((HE.out _ ?_).1).mono ?_); (simp [*]); rintro e w5 ⟨n5, rfl, g5⟩) | (go_at_call 41; (with_reducible refine ((HE.out _ ?_).2.1).mono ?_); (simp [*]); rintro e w5 ⟨n5, rfl, g5⟩) | (go_at_call 41; (with_reducible refine ((HE.out _ ?_).2.2.1).mono ?_); (simp [*]); rintro e w5 ⟨n5, rfl, g5⟩) | (go_at_call 41; (with_reducible refine ((HE.out _ ?_).2.2.2).mono ?_); (simp [*]); rintro e w5 ⟨n5, rfl, g5⟩))
            all_goals (rename_i hH; have hG := hH.2.2.2.2.2.2; clear hH; go_wp2_with fail; go_meet; exact ⟨_, rfl, hG⟩)
          case rest =>
            obtain ⟨n5, rfl, hg5⟩ := hcut
            have HZ1 := Lib.hid hg5
            clear hg5
            go_wp2_with fail
            go_loopg [3, 5] h1.p.length (fun g v3 v5 w2 => ∃ j : Nat, ∃ n : Int, j + g = h1.p.length ∧ v3 = .int .i64 n ∧ v5 = .int .i64 j ∧ wr.grownBy w2 none)
            case atStart => exact ⟨0, _, by omega, rfl, rfl, HZ1.out⟩
            case round =>
              obtain ⟨j, n2, hj, rfl, rfl, hg2⟩ := hrel
              have y3 := gb_cellN hg2 HZ.out.1
              by_cases hjl : j < h1.p.length
              · have hjI : decide (j < h1.p.length) = true := by simpa using hjl
                obtain ⟨gp, op, rfl, hcp⟩ := HN.out.2.2.2.1 j hjl
                have t0 := gb_cellN (gb_trans HN.out.2.2.1 hg2) hcp
                have HG := Lib.hid hg2
                clear hcp hg2
                generalize h1.p.getD j [] = s at *
                go_wp2
                go_roundg (h1.p.length - (j + 1))
                case measure => omega
                case rel => exact ⟨j + 1, _, by omega, rfl, by go_num, HG.out⟩
              · have hjI : decide (j < h1.p.length) = false := by simpa using hjl
                have HG := Lib.hid hg2
                have hw0 := gb_trans HN.out.2.2.1 hg2
                have HW0 := Lib.hid hw0
                clear hg2 hw0
                go_wp2_with fail
                go_loopg [3, 6] b1.len (fun g v3 v6 w3 => ∃ sa : Bl, ∃ j : Nat, ∃ n : Int, sa.len = g ∧ j + g = b1.len ∧ v3 = .int .i64 n ∧ v6 = .int .i64 j ∧ sa.wt ≤ b1.wt ∧ RepT ok w sa true (kcs.drop j) ∧ World.grownBy wr w3 none)
                case atStart => exact ⟨b1, 0, _, rfl, by omega, rfl, rfl, Nat.le_refl _, by simpa using HN.out.2.2.2.2.2, gb_refl _ _⟩
                case round =>
                  obtain ⟨sa, j2, n3, hs2, hj2, rfl, rfl, hno2, hra2, hg3⟩ := hrel
                  have y5 := gb_cellN (gb_trans HG.out hg3) HZ.out.2
                  cases sa with
                  | st _ _ _ => exact hra2.elim
                  | nil =>
                    have hkI2 : decide (j2 < b1.len) = false := by simp [Bl.len] at hs2; simp; omega
                    have HG3 := Lib.hid (gb_trans HW0.out hg3)
                    clear hg3 hs2 hra2
                    go_wp2
                    go_roundg n1.len
                    case measure => omega
                    case rel => exact ⟨n1, k + 1, _, rfl, by omega, rfl, by go_num, HN.out.1.1, HN.out.2.1, HG3.out⟩
                  | bl q r =>
                    simp only [Bl.len] at hs2
                    simp only [Bl.wt] at hno2
                    subst hs2
                    obtain ⟨qa, qc, hq, hr, u, v, e, _, hcq⟩ := RepT.elemB HN.out.2.2.2.2.1 hra2
                    cases e
                    have hkI2 : decide (j2 < b1.len) = true := by simp; omega
                    have hkf2 : j2 + 1 ≤ b1.len := by omega
                    have z1 := gb_cellN (gb_trans HW0.out hg3) hcq
                    have HE2 := Lib.hid (fun (W : World) (gW : wr.grownBy W none) => HC.out.2 q (by have := HN.out.1.2; omega) ok qa qc W (hq.gb (gb_trans (gb_trans HW0.out hg3) gW) (by simp)))
                    have HQ := Lib.hid (And.intro (show r.wt ≤ b1.wt by omega) (And.intro hr hg3))
                    clear hno2 hra2 hq hr hcq hg3
                    go_wp2_with fail
                    refine (HE2.out _ (gb_refl _ _)).mono ?_
                    rintro e w5 ⟨n5, rfl, g5⟩
                    have HG5 := Lib.hid (gb_trans HQ.out.2.2 g5)
                    clear g5
                    go_wp2
                    go_roundg r.len
                    case measure => omega
                    case rel => exact ⟨r, j2 + 1, _, rfl, by omega, rfl, by go_num, HQ.out.1, HQ.out.2.1, HG5.out⟩
        · have hnI : decide (n < 65536) = false := by simpa using hlim
          have HG := Lib.hid hgr
          clear hgr hra
          go_wp2
          go_ret
          exact ⟨_, rfl, HG.out⟩

end Go.Proofs.YtmcajbhljbbglaaGreatDoor

namespace Go.Proofs.YtmcajbhljbbglaaGreatDoor
open Go.RowKit

theorem four_gb {w W W1 : World} {a m : Nat} {u0 u1 : Value} (h : W.cell? ⟨a, m, none⟩ = some u0 ∧ W.cell? ⟨a, m + 3, none⟩ = some u1 ∧ w.grownBy W none) (g : W.grownBy W1 none) : W1.cell? ⟨a, m, none⟩ = some u0 ∧ W1.cell? ⟨a, m + 3, none⟩ = some u1 ∧ w.grownBy W1 none :=
  ⟨gb_cellN g h.1, gb_cellN g h.2.1, gb_trans h.2.2 g⟩

set_option maxRecDepth 40000 in
set_option maxHeartbeats 8000000 in
theorem overProgram_any {w : World} {ok : Nat → Prop} {la : Option Addr} {lc : Nat} {a : List Pd} (ha : RepQ ok w (.slice la a.length lc) a) : Calls Tryz.prog 17 #[.slice la a.length lc] w (SomeB w) := by
  obtain ⟨cs, hc1, hr1⟩ := ha
  obtain ⟨_, _, e, hle, hmx, _, hc1⟩ := hc1
  cases e
  have hmax : a.length ≤ maxLen := by omega
  unfold maxLen at hmax
  clear hle hmx
  have HC := Lib.hid hc1
  have HR := Lib.hid hr1
  clear hc1 hr1
  go_enter Tryz.func17, Tryz.ntmps17
  go_wp2_with fail
  go_loopg [3, 4] a.length (fun g v3 v4 wr => ∃ ra : List Pd, ∃ k : Nat, ∃ n : Int, ra.length = g ∧ k + g = a.length ∧ v3 = .int .i64 n ∧ v4 = .int .i64 k ∧ RepP ok w ra (cs.drop (k * 4)) ∧ w.grownBy wr none)
  case atStart => exact ⟨a, 0, _, rfl, by omega, rfl, rfl, by simpa using HR.out, gb_refl _ _⟩
  case round =>
    obtain ⟨ra, k, n, hn, hk, rfl, rfl, hra, hgr⟩ := hrel
    clear HR
    cases ra with
    | nil =>
      have hkI : decide (k < a.length) = false := by simp at hn; simp; omega
      have HG := Lib.hid hgr
      clear hgr hn hra
      go_wp2
      go_ret
      exact ⟨_, rfl, HG.out⟩
    | cons h1 n1 =>
      simp only [List.length_cons] at hn
      subst hn
      have hkI : decide (k < a.length) = true := by simp; omega
      by_cases hlim : n < 65536
      · have hnI : decide (n < 65536) = true := by simpa using hlim
        obtain ⟨pa1, ba1, pc1, bc1, hp1, hB1, hx1, ha1⟩ := RepP.elem HC.out hra
        have hkf : k + 1 ≤ a.length := by omega
        have i0 : (0 : Int) ≤ (k : Int) := by omega
        have i1 : (k : Int) < (a.length : Int) := by omega
        have i2 : k < a.length := by omega
        have HE := Lib.hid (fun (W : World) (gW : wr.grownBy W none) => heavyStmts_N _ h1.body (Nat.lt_succ_self _) ok ba1 bc1 W (hB1.gb (gb_trans hgr gW) (by simp)))
        have hpm : h1.p.length ≤ maxLen := by obtain ⟨_, _, e, h3, h4, _⟩ := hp1; omega
        unfold maxLen at hpm
        have HN := Lib.hid (And.intro hx1 (And.intro hgr hp1.at1.2))
        clear hra hp1 hB1 hx1
        obtain ⟨g1, o1, rfl, hokz, y0⟩ := ha1 0 _ rfl
        obtain ⟨_, _, e1, _, y1⟩ := ha1 1 _ rfl
        cases e1
        obtain ⟨_, _, e1, _, y2⟩ := ha1 2 _ rfl
        cases e1
        obtain ⟨_, _, e1, _, y3⟩ := ha1 3 _ rfl
        cases e1
        have hglz := World.block_lt_of_cell? w _ y0
        have z0 := gb_cellN hgr y0
        have z1 := gb_cellN hgr y1
        have z2 := gb_cellN hgr y2
        have z3 := gb_cellN hgr y3
        simp only [Nat.add_zero, ← Nat.add_assoc] at z0 z1 z2 z3
        clear y0 y1 y2 y3
        have hws := hgr.size
        clear ha1 hgr
        have HZ := Lib.hid z2
        clear z1 z2
        go_upto_region 5 with fail
        go_cut [3] (fun v3 wx => ∃ n : Int, v3 = .int .i64 n ∧ wr.grownBy wx none)
        case first =>
          go_region_held3 (fun W => W.cell? ⟨g1, o1 + k * 4, none⟩ = some (str h1.name) ∧ W.cell? ⟨g1, o1 + k * 4 + 3, none⟩ = some (.slice ba1 h1.body.len bc1) ∧ wr.grownBy W none) (first | exact ⟨z0, z3, gb_drew (gb_refl wr none)⟩ | exact four_gb (by assumption) g5) (first | (go_at_call 44; refine (HE.out _ ?_).mono ?_; (simp [*]); rintro e w5 ⟨n5, rfl, g5⟩))
          all_goals (rename_i hH; have hG := hH.2.2; clear hH; go_wp2_with fail; go_meet; exact ⟨_, rfl, hG⟩)
        case rest =>
          obtain ⟨n5, rfl, hg5⟩ := hcut
          have HZ1 := Lib.hid hg5
          clear hg5 z0 z3
          go_wp2_with fail
          go_loopg [3, 5] h1.p.length (fun g v3 v5 w2 => ∃ j : Nat, ∃ n : Int, j + g = h1.p.length ∧ v3 = .int .i64 n ∧ v5 = .int .i64 j ∧ wr.grownBy w2 none)
          case atStart => exact ⟨0, _, by omega, rfl, rfl, HZ1.out⟩
          case round =>
            obtain ⟨j, n2, hj, rfl, rfl, hg2⟩ := hrel
            have y2 := gb_cellN hg2 HZ.out
            by_cases hjl : j < h1.p.length
            · have hjI : decide (j < h1.p.length) = true := by simpa using hjl
              obtain ⟨gp, op, rfl, hcp⟩ := HN.out.2.2 j hjl
              have t0 := gb_cellN (gb_trans HN.out.2.1 hg2) hcp
              have HG := Lib.hid hg2
              clear hcp hg2
              generalize h1.p.getD j [] = s at *
              go_wp2
              go_roundg (h1.p.length - (j + 1))
              case measure => omega
              case rel => exact ⟨j + 1, _, by omega, rfl, by go_num, HG.out⟩
            · have hjI : decide (j < h1.p.length) = false := by simpa using hjl
              have HG := Lib.hid (gb_trans HN.out.2.1 hg2)
              clear hg2
              go_wp2
              go_roundg n1.length
              case measure => omega
              case rel => exact ⟨n1, k + 1, _, rfl, by omega, rfl, by go_num, HN.out.1, HG.out⟩
      · have hnI : decide (n < 65536) = false := by simpa using hlim
        have HG := Lib.hid hgr
        clear hgr hra
        go_wp2
        go_ret
        exact ⟨_, rfl, HG.out⟩

end Go.Proofs.YtmcajbhljbbglaaGreatDoor

namespace Go.Proofs.YtmcajbhljbbglaaGreatDoor
open Go.RowKit

theorem SRow.cells {w : World} {v : Value} {l : List Bs} {ok : Nat → Prop} (h : SRow w v l ok) : ∃ a c, v = .slice a l.length c ∧ Cells w (.slice a l.length c) 1 l.length (l.map str) ok := by
  obtain ⟨a, c, rfl, h1, h2, h3⟩ := h
  refine ⟨a, c, rfl, a, c, rfl, h1, h2, by simp, fun j u hj => ?_⟩
  rw [List.getElem?_map] at hj
  obtain ⟨s, hs, rfl⟩ := Option.map_eq_some_iff.1 hj
  obtain ⟨lb, lo, e, ho, hc⟩ := h3 j (List.getElem?_eq_some_iff.1 hs).1
  refine ⟨lb, lo, e, ho, ?_⟩
  rw [hc]
  simp [List.getD, hs]

set_option maxRecDepth 40000 in
set_option maxHeartbeats 4000000 in
theorem treeSames_walk {w : World} {la lb : Option Addr} {lc ld : Nat} {a b : List Pd} (ht : Tabs w.heap.size w) (ha : RepQ (fun _ => True) w (.slice la a.length lc) a) (hb : RepQ (fun _ => True) w (.slice lb b.length ld) b) :
    Calls Tryz.prog 6 #[.slice la a.length lc, .slice lb b.length ld] w fun e w' => e = .returned (.bool true) ∧ w.grownBy w' none := by
  have HK := Lib.hid (fun (W : World) (g : w.grownBy W none) => known_any ((ht.gbN g).mono g.size))
  have H1 := Lib.hid (fun (W : World) (g : w.grownBy W none) => overProgram_any (ha.gb g (by simp)))
  have H2 := Lib.hid (fun (W : World) (g : w.grownBy W none) => overProgram_any (hb.gb g (by simp)))
  have H3 := Lib.hid (fun (W : World) (g : w.grownBy W none) => same_any (ha.gb g (by simp)) (hb.gb g (by simp)))
  have H4 := Lib.hid (fun (W : World) (g : w.grownBy W none) => refSame_any (ha.gb g (by simp)) (hb.gb g (by simp)))
  have H5 := Lib.hid (fun (W : World) (g : w.grownBy W none) => same_any (ha.gb g (by simp)) (ha.gb g (by simp)))
  have HG := Lib.hid ht.glob
  have HW := Lib.hid (fun (W : World) (g : w.grownBy W none) => treeWords_any (ht.gbN g).glob)
  rw [sameP_refl] at H5
  generalize sameP a b = q at *
  clear ht ha hb
  go_enter Tryz.func6, Tryz.ntmps6
  go_wp2_with fail
  refine (H1.out _ (gb_refl _ _)).mono ?_
  rintro e w1 ⟨o1, rfl, g1⟩
  cases o1 with
  | true =>
    go_wp2_with fail
    refine (HK.out _ g1).mono ?_
    rintro e w2 ⟨rfl, g2⟩
    go_wp2
    go_ret
    exact ⟨rfl, gb_trans g1 g2⟩
  | false =>
    go_wp2_with fail
    refine (H2.out _ g1).mono ?_
    rintro e w2 ⟨o2, rfl, g2'⟩
    have g2 := gb_trans g1 g2'
    clear g1 g2'
    cases o2 with
    | true =>
      go_wp2_with fail
      refine (HK.out _ g2).mono ?_
      rintro e w3 ⟨rfl, g3⟩
      go_wp2
      go_ret
      exact ⟨rfl, gb_trans g2 g3⟩
    | false =>
      go_wp2_with fail
      refine (H3.out _ g2).mono ?_
      rintro e w3 ⟨rfl, g3'⟩
      have g3 := gb_trans g2 g3'
      clear g2 g3'
      go_wp2_with fail
      refine (H4.out _ g3).mono ?_
      rintro e w4 ⟨rfl, g4'⟩
      have g4 := gb_trans g3 g4'
      clear g3 g4'
      go_wp2_with fail
      refine (H5.out _ g4).mono ?_
      rintro e w5 ⟨rfl, g5'⟩
      have g5 := gb_trans g4 g5'
      clear g4 g5'
      go_wp2_with fail
      refine (HW.out _ g5).mono ?_
      rintro e w6 ⟨v6, rfl, hs6, g6'⟩
      have g6 := gb_trans g5 g6'
      clear g5 g6'
      obtain ⟨a6, c6, rfl, hc6⟩ := hs6.cells
      have HC6 := Lib.hid hc6
      clear hs6 hc6
      go_wp2_with fail
      refine (refWords_any _).mono ?_
      rintro e w7 ⟨v7, rfl, hs7, g7'⟩
      have HC67 := Lib.hid (HC6.out.mono (ok' := fun _ => True) (fun _ _ _ => trivial) |>.gb g7' (by simp))
      have g7 := gb_trans g6 g7'
      clear g6 g7'
      obtain ⟨a7, c7, rfl, hc7⟩ := hs7.cells
      have HT := Lib.hid (sameTexts01_any HC67.out hc7)
      clear hs7 hc7
      generalize wordsL = wl at *
      go_wp2_with fail
      refine HT.out.mono ?_
      rintro e w8 ⟨rfl, g8'⟩
      have g8 := gb_trans g7 g8'
      clear g7 g8'
      have hq : textsEq wl wl = true := by simp [textsEq]
      rw [hq]
      go_wp2_with fail
      refine (HK.out _ g8).mono ?_
      rintro e w9 ⟨rfl, g9'⟩
      have g9 := Lib.hid (gb_trans g8 g9')
      clear g8 g9'
      go_wp2
      go_ret
      exact ⟨rfl, g9.out⟩

end Go.Proofs.YtmcajbhljbbglaaGreatDoor
