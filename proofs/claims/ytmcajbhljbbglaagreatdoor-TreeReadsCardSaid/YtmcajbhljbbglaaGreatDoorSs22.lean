/-
  SameExprs of the reference: rows of expressions.
  sameExprs of the program: slices.EqualFunc over SameExpr.
  heavy and overExpr: they return, and leave what was there.
-/
import Derived.Test.YtmcajbhljbbglaaGreatDoorSs21
set_option linter.all false
set_option linter.unusedVariables false
set_option linter.unusedSimpArgs false
set_option linter.unnecessarySimpa false
set_option linter.constructorNameAsVariable false
set_option linter.deprecated false

namespace Go.Proofs.YtmcajbhljbbglaaGreatDoor
open Go.RowKit

/-- how many expressions there are in a row, and in each other -/
def Fo.wt : Fo → Nat
  | .nil => 0
  | .cons _ kids next => 1 + kids.wt + next.wt

/-- the element k of a row: where its cells lie, its names, its operands -/
theorem RepF.elem {ok : Nat → Prop} {w : World} {la : Option Addr} {n lc : Nat} {cs : List Value} {f : Fo} {h : Hd} {kids next : Fo} {k : Nat} (hc : ∀ j u, cs[j]? = some u → ∃ g o, la = some ⟨g, o, none⟩ ∧ ok g ∧ w.cell? ⟨g, o + j, none⟩ = some u)
    (hr : RepF ok w (.cons h kids next) (cs.drop (k * 7))) : ∃ pa pc lb ld, Cells w (.slice pa h.p.length pc) 1 h.p.length (h.p.map str) ok ∧ RepL ok w (.slice lb kids.len ld) kids ∧ RepF ok w next (cs.drop ((k + 1) * 7)) ∧
      ∀ i u, (hdC h (.slice pa h.p.length pc) (.slice lb kids.len ld))[i]? = some u → ∃ g o, la = some ⟨g, o, none⟩ ∧ ok g ∧ w.cell? ⟨g, o + (k * 7 + i), none⟩ = some u := by
  obtain ⟨pv, lv, kcs, rcs, hcs, hp, hl, hkids, hnext⟩ := hr
  have hp' := hp
  have hl' := hl
  obtain ⟨pa, pc, rfl, _⟩ := hp
  obtain ⟨lb, ld, rfl, _⟩ := hl
  refine ⟨pa, pc, lb, ld, hp', ⟨kcs, hl', hkids⟩, ?_, ?_⟩
  · have e : cs.drop ((k + 1) * 7) = rcs := by
      rw [show (k + 1) * 7 = k * 7 + 7 by omega, ← List.drop_drop, hcs]
      exact List.drop_left' rfl
    rw [e]
    exact hnext
  · intro i u hu
    refine hc (k * 7 + i) u ?_
    have : cs[k * 7 + i]? = (cs.drop (k * 7))[i]? := by simp
    rw [this, hcs, List.getElem?_append_left (by have := (List.getElem?_eq_some_iff.1 hu).1; exact this)]
    exact hu

set_option maxRecDepth 40000 in
set_option maxHeartbeats 4000000 in
theorem refSameExprs_N : ∀ (N : Nat) (f g : Fo), f.wt < N → ∀ (ok ok' : Nat → Prop) (la lb : Option Addr) (lc ld : Nat) (w : World), RepL ok w (.slice la f.len lc) f → RepL ok' w (.slice lb g.len ld) g →
    Calls Tryz.prog 33 #[.slice la f.len lc, .slice lb g.len ld] w fun e w' => e = .returned (.bool (sameF f g)) ∧ w.grownBy w' none := by
  intro N
  induction N with
  | zero => intro f g hN; omega
  | succ N ih =>
    intro f g hN ok ok' la lb lc ld w hf hg
    by_cases hlen : f.len = g.len
    · obtain ⟨cs, hc1, hr1⟩ := hf
      obtain ⟨ds, hc2, hr2⟩ := hg
      obtain ⟨_, _, e, hle, hmx, _, hc1⟩ := hc1
      cases e
      obtain ⟨_, _, e, _, _, _, hc2⟩ := hc2
      cases e
      have hmax : f.len ≤ maxLen := by omega
      unfold maxLen at hmax
      clear hle hmx
      have hnI : ((f.len : Int) != (g.len : Int)) = false := by simp; omega
      have hnI2 : ((f.len : Int) == (g.len : Int)) = true := by simp; omega
      have HC := Lib.hid (And.intro hc1 (And.intro hc2 (And.intro ih hlen)))
      have HR := Lib.hid (And.intro hr1 hr2)
      clear hc1 hc2 ih hlen hr1 hr2
      go_enter Tryz.func33, Tryz.ntmps33
      go_wp2_with fail
      go_loopg [5] f.len (fun n v5 wr => ∃ rf rg : Fo, ∃ k : Nat, rf.len = n ∧ k + n = f.len ∧ rf.len = rg.len ∧ v5 = .int .i64 k ∧ rf.wt ≤ f.wt ∧ sameF f g = sameF rf rg ∧ RepF ok w rf (cs.drop (k * 7)) ∧ RepF ok' w rg (ds.drop (k * 7)) ∧ w.grownBy wr none)
      case atStart => exact ⟨f, g, 0, rfl, by omega, HC.out.2.2.2, rfl, Nat.le_refl _, rfl, by simpa using HR.out.1, by simpa using HR.out.2, gb_refl _ _⟩
      case round =>
        obtain ⟨rf, rg, k, hn, hk, hl, rfl, hno, hs, hrf, hrg, hgr⟩ := hrel
        clear HR
        cases rf with
        | nil =>
          cases rg with
          | cons => simp [Fo.len] at hl
          | nil =>
            have hkI : decide (k < f.len) = false := by simp [Fo.len] at hn; simp; omega
            have HS := Lib.hid (show sameF f g = true by rw [hs]; rfl)
            have HG := Lib.hid hgr
            clear hs hgr hn hl hrf hrg
            go_wp2
            go_ret
            exact ⟨by rw [HS.out]; rfl, HG.out⟩
        | cons h1 k1 n1 =>
          cases rg with
          | nil => simp [Fo.len] at hl
          | cons h2 k2 n2 =>
            simp only [Fo.len] at hn hl
            simp only [Fo.wt] at hno
            subst hn
            obtain ⟨pa1, pc1, lb1, ld1, hp1, hl1, hx1, ha1⟩ := RepF.elem (n := f.len) (lc := lc) (f := f) HC.out.1 hrf
            obtain ⟨pa2, pc2, lb2, ld2, hp2, hl2, hx2, ha2⟩ := RepF.elem (n := g.len) (lc := ld) (f := g) HC.out.2.1 hrg
            have hkI : decide (k < f.len) = true := by simp; omega
            have hkg : k < g.len := by have := HC.out.2.2.2; omega
            have hkf : k + 1 ≤ f.len := by omega
            have HS := Lib.hid (And.intro (show sameF f g = ((hdEq h1 h2 && sameF k1 k2) && sameF n1 n2) from hs) (show n1.len = n2.len by omega))
            have HE := Lib.hid (fun (W : World) (gW : wr.grownBy W none) => refSameExpr_step (hp1.gb (gb_trans hgr gW) (by simp)) (hp2.gb (gb_trans hgr gW) (by simp)) (b := sameF k1 k2) (fun W2 gW2 => HC.out.2.2.1 k1 k2 (by omega) ok ok' lb1 lb2 ld1 ld2 W2 (hl1.gb (gb_trans hgr (gb_trans gW gW2)) (by simp)) (hl2.gb (gb_trans hgr (gb_trans gW gW2)) (by simp))))
            have HN := Lib.hid (And.intro (show n1.wt ≤ f.wt by omega) (And.intro hx1 (And.intro hx2 hgr)))
            clear hs hl hno hrf hrg hp1 hl1 hx1 hp2 hl2 hx2
            obtain ⟨g1, o1, rfl, hokz, y0⟩ := ha1 0 _ rfl
            obtain ⟨_, _, e1, _, y1⟩ := ha1 1 _ rfl
            cases e1
            obtain ⟨_, _, e1, _, y2⟩ := ha1 2 _ rfl
            cases e1
            obtain ⟨_, _, e1, _, y3⟩ := ha1 3 _ rfl
            cases e1
            obtain ⟨_, _, e1, _, y4⟩ := ha1 4 _ rfl
            cases e1
            obtain ⟨_, _, e1, _, y5⟩ := ha1 5 _ rfl
            cases e1
            obtain ⟨_, _, e1, _, y6⟩ := ha1 6 _ rfl
            cases e1
            have hglz := World.block_lt_of_cell? w _ y0
            have z0 := gb_cellN hgr y0
            have z1 := gb_cellN hgr y1
            have z2 := gb_cellN hgr y2
            have z3 := gb_cellN hgr y3
            have z4 := gb_cellN hgr y4
            have z5 := gb_cellN hgr y5
            have z6 := gb_cellN hgr y6
            simp only [Nat.add_zero, ← Nat.add_assoc] at z0 z1 z2 z3 z4 z5 z6
            clear y0 y1 y2 y3 y4 y5 y6
            obtain ⟨g2, o2, rfl, hokt, y0⟩ := ha2 0 _ rfl
            obtain ⟨_, _, e1, _, y1⟩ := ha2 1 _ rfl
            cases e1
            obtain ⟨_, _, e1, _, y2⟩ := ha2 2 _ rfl
            cases e1
            obtain ⟨_, _, e1, _, y3⟩ := ha2 3 _ rfl
            cases e1
            obtain ⟨_, _, e1, _, y4⟩ := ha2 4 _ rfl
            cases e1
            obtain ⟨_, _, e1, _, y5⟩ := ha2 5 _ rfl
            cases e1
            obtain ⟨_, _, e1, _, y6⟩ := ha2 6 _ rfl
            cases e1
            have hglt := World.block_lt_of_cell? w _ y0
            have t0 := gb_cellN hgr y0
            have t1 := gb_cellN hgr y1
            have t2 := gb_cellN hgr y2
            have t3 := gb_cellN hgr y3
            have t4 := gb_cellN hgr y4
            have t5 := gb_cellN hgr y5
            have t6 := gb_cellN hgr y6
            simp only [Nat.add_zero, ← Nat.add_assoc] at t0 t1 t2 t3 t4 t5 t6
            clear y0 y1 y2 y3 y4 y5 y6
            clear ha1 ha2 hgr
            have hws := HN.out.2.2.2.size
            cases hb : (hdEq h1 h2 && sameF k1 k2) with
            | true =>
              rw [hb] at HE
              have HB := Lib.hid (show sameF f g = sameF n1 n2 by rw [HS.out.1, hb]; rfl)
              clear hb
              go_wp2_with fail
              go_region_with (go_at_call 11; refine (HE.out _ ?gg).mono ?_; (case gg => exact (by repeat (first | (with_reducible exact gb_refl _ _) | (with_reducible assumption) | (with_reducible exact gb_none (by assumption)) | (with_reducible refine gb_alloc ?_ _) | (with_reducible refine gb_drew ?_) | (with_reducible refine gb_drewN ?_ _) | ((with_reducible refine gb_set ?_ _ _ ?h2); case h2 => first | exact .inl rfl | exact .inr (Nat.le_refl _) | exact .inr (by simp <;> omega)) | (with_reducible refine gb_sub ?_ (by assumption)) | (with_reducible refine gb_trans ?_ (by assumption))))); rintro e w5 ⟨rfl, g5⟩)
              all_goals
                go_wp2
                go_roundg n1.len
                case measure => omega
                case rel => exact ⟨n1, n2, k + 1, rfl, by omega, HS.out.2, by go_num, HN.out.1, HB.out, HN.out.2.1, HN.out.2.2.1, gb_trans (gb_drewN HN.out.2.2.2 _) g5⟩
            | false =>
              rw [hb] at HE
              have HB := Lib.hid (show sameF f g = false by rw [HS.out.1, hb]; rfl)
              clear hb
              go_wp2_with fail
              go_region_with (go_at_call 11; refine (HE.out _ ?gg).mono ?_; (case gg => exact (by repeat (first | (with_reducible exact gb_refl _ _) | (with_reducible assumption) | (with_reducible exact gb_none (by assumption)) | (with_reducible refine gb_alloc ?_ _) | (with_reducible refine gb_drew ?_) | (with_reducible refine gb_drewN ?_ _) | ((with_reducible refine gb_set ?_ _ _ ?h2); case h2 => first | exact .inl rfl | exact .inr (Nat.le_refl _) | exact .inr (by simp <;> omega)) | (with_reducible refine gb_sub ?_ (by assumption)) | (with_reducible refine gb_trans ?_ (by assumption))))); rintro e w5 ⟨rfl, g5⟩)
              all_goals
                go_wp2
                go_ret
                exact ⟨by rw [HB.out]; rfl, gb_trans (gb_drewN HN.out.2.2.2 _) g5⟩
    · have hnI : ((f.len : Int) != (g.len : Int)) = true := by simp; omega
      have hnI2 : ((f.len : Int) == (g.len : Int)) = false := by simp; omega
      have HN := Lib.hid (show sameF f g = false by cases h : sameF f g with | false => rfl | true => exact absurd (sameF_len h) hlen)
      clear hlen hf hg ih
      go_enter Tryz.func33, Tryz.ntmps33
      go_wp2
      go_ret
      exact ⟨by rw [HN.out]; rfl, (by repeat (first | (with_reducible exact gb_refl _ _) | (with_reducible assumption) | (with_reducible exact gb_none (by assumption)) | (with_reducible refine gb_alloc ?_ _) | (with_reducible refine gb_drew ?_) | (with_reducible refine gb_drewN ?_ _) | ((with_reducible refine gb_set ?_ _ _ ?h2); case h2 => first | exact .inl rfl | exact .inr (Nat.le_refl _) | exact .inr (by simp <;> omega)) | (with_reducible refine gb_sub ?_ (by assumption)) | (with_reducible refine gb_trans ?_ (by assumption))))⟩

end Go.Proofs.YtmcajbhljbbglaaGreatDoor

namespace Go.Proofs.YtmcajbhljbbglaaGreatDoor
open Go.RowKit

set_option maxRecDepth 40000 in
set_option maxHeartbeats 4000000 in
theorem equalFunc_N (f g : Fo) (ok ok' : Nat → Prop) (la lb : Option Addr) (lc ld : Nat) (w : World) (hf : RepL ok w (.slice la f.len lc) f) (hg : RepL ok' w (.slice lb g.len ld) g)
    (hE : ∀ (h1 h2 : Hd) (k1 k2 : Fo) (pa pb la lb : Option Addr) (pc pd lc ld : Nat) (W : World), k1.wt < f.wt → Cells W (.slice pa h1.p.length pc) 1 h1.p.length (h1.p.map str) (fun _ => True) → Cells W (.slice pb h2.p.length pd) 1 h2.p.length (h2.p.map str) (fun _ => True) →
      RepL (fun _ => True) W (.slice la k1.len lc) k1 → RepL (fun _ => True) W (.slice lb k2.len ld) k2 →
      Calls Tryz.prog 16 #[exV h1 (.slice pa h1.p.length pc) (.slice la k1.len lc), exV h2 (.slice pb h2.p.length pd) (.slice lb k2.len ld)] W fun e w' => e = .returned (.bool (hdEq h1 h2 && sameF k1 k2)) ∧ W.grownBy w' none) :
    Calls Tryz.prog 77 #[.slice la f.len lc, .slice lb g.len ld, .func (.func 16) #[] #[]] w fun e w' => e = .returned (.bool (sameF f g)) ∧ w.grownBy w' none := by
  replace hf := hf.mono (ok' := fun _ => True) (fun _ _ _ => trivial)
  replace hg := hg.mono (ok' := fun _ => True) (fun _ _ _ => trivial)
  by_cases hlen : f.len = g.len
  · obtain ⟨cs, hc1, hr1⟩ := hf
    obtain ⟨ds, hc2, hr2⟩ := hg
    obtain ⟨_, _, e, hle, hmx, _, hc1⟩ := hc1
    cases e
    obtain ⟨_, _, e, _, _, _, hc2⟩ := hc2
    cases e
    have hmax : f.len ≤ maxLen := by omega
    unfold maxLen at hmax
    clear hle hmx
    have hnI : ((f.len : Int) != (g.len : Int)) = false := by simp; omega
    have hnI2 : ((f.len : Int) == (g.len : Int)) = true := by simp; omega
    have HC := Lib.hid (And.intro hc1 (And.intro hc2 (And.intro hE hlen)))
    have HR := Lib.hid (And.intro hr1 hr2)
    clear hc1 hc2 hE hlen hr1 hr2
    go_enter Tryz.func77, Tryz.ntmps77
    go_wp2_with fail
    go_loopg [17] f.len (fun n v17 wr => ∃ rf rg : Fo, ∃ k : Nat, rf.len = n ∧ k + n = f.len ∧ rf.len = rg.len ∧ v17 = .int .i64 k ∧ rf.wt ≤ f.wt ∧ sameF f g = sameF rf rg ∧ RepF (fun _ => True) w rf (cs.drop (k * 7)) ∧ RepF (fun _ => True) w rg (ds.drop (k * 7)) ∧ w.grownBy wr none)
    case atStart => exact ⟨f, g, 0, rfl, by omega, HC.out.2.2.2, rfl, Nat.le_refl _, rfl, by simpa using HR.out.1, by simpa using HR.out.2, gb_refl _ _⟩
    case round =>
      obtain ⟨rf, rg, k, hn, hk, hl, rfl, hno, hs, hrf, hrg, hgr⟩ := hrel
      clear HR
      cases rf with
      | nil =>
        cases rg with
        | cons => simp [Fo.len] at hl
        | nil =>
          have hkI : decide (k < f.len) = false := by simp [Fo.len] at hn; simp; omega
          have HS := Lib.hid (show sameF f g = true by rw [hs]; rfl)
          have HG := Lib.hid hgr
          clear hs hgr hn hl hrf hrg
          go_wp2
          go_ret
          exact ⟨by rw [HS.out]; rfl, HG.out⟩
      | cons h1 k1 n1 =>
        cases rg with
        | nil => simp [Fo.len] at hl
        | cons h2 k2 n2 =>
          simp only [Fo.len] at hn hl
          simp only [Fo.wt] at hno
          subst hn
          obtain ⟨pa1, pc1, lb1, ld1, hp1, hl1, hx1, ha1⟩ := RepF.elem (n := f.len) (lc := lc) (f := f) HC.out.1 hrf
          obtain ⟨pa2, pc2, lb2, ld2, hp2, hl2, hx2, ha2⟩ := RepF.elem (n := g.len) (lc := ld) (f := g) HC.out.2.1 hrg
          have hkI : decide (k < f.len) = true := by simp; omega
          have hkg : k < g.len := by have := HC.out.2.2.2; omega
          have hkf : k + 1 ≤ f.len := by omega
          have HS := Lib.hid (And.intro (show sameF f g = ((hdEq h1 h2 && sameF k1 k2) && sameF n1 n2) from hs) (show n1.len = n2.len by omega))
          have HE := Lib.hid (fun (W : World) (gW : wr.grownBy W none) => HC.out.2.2.1 h1 h2 k1 k2 pa1 pa2 lb1 lb2 pc1 pc2 ld1 ld2 W (by omega) (hp1.gb (gb_trans hgr gW) (by simp)) (hp2.gb (gb_trans hgr gW) (by simp)) (hl1.gb (gb_trans hgr gW) (by simp)) (hl2.gb (gb_trans hgr gW) (by simp)))
          have HN := Lib.hid (And.intro (show n1.wt ≤ f.wt by omega) (And.intro hx1 (And.intro hx2 hgr)))
          clear hs hl hno hrf hrg hp1 hl1 hx1 hp2 hl2 hx2
          obtain ⟨g1, o1, rfl, hokz, y0⟩ := ha1 0 _ rfl
          obtain ⟨_, _, e1, _, y1⟩ := ha1 1 _ rfl
          cases e1
          obtain ⟨_, _, e1, _, y2⟩ := ha1 2 _ rfl
          cases e1
          obtain ⟨_, _, e1, _, y3⟩ := ha1 3 _ rfl
          cases e1
          obtain ⟨_, _, e1, _, y4⟩ := ha1 4 _ rfl
          cases e1
          obtain ⟨_, _, e1, _, y5⟩ := ha1 5 _ rfl
          cases e1
          obtain ⟨_, _, e1, _, y6⟩ := ha1 6 _ rfl
          cases e1
          have hglz := World.block_lt_of_cell? w _ y0
          have z0 := gb_cellN hgr y0
          have z1 := gb_cellN hgr y1
          have z2 := gb_cellN hgr y2
          have z3 := gb_cellN hgr y3
          have z4 := gb_cellN hgr y4
          have z5 := gb_cellN hgr y5
          have z6 := gb_cellN hgr y6
          simp only [Nat.add_zero, ← Nat.add_assoc] at z0 z1 z2 z3 z4 z5 z6
          clear y0 y1 y2 y3 y4 y5 y6
          obtain ⟨g2, o2, rfl, hokt, y0⟩ := ha2 0 _ rfl
          obtain ⟨_, _, e1, _, y1⟩ := ha2 1 _ rfl
          cases e1
          obtain ⟨_, _, e1, _, y2⟩ := ha2 2 _ rfl
          cases e1
          obtain ⟨_, _, e1, _, y3⟩ := ha2 3 _ rfl
          cases e1
          obtain ⟨_, _, e1, _, y4⟩ := ha2 4 _ rfl
          cases e1
          obtain ⟨_, _, e1, _, y5⟩ := ha2 5 _ rfl
          cases e1
          obtain ⟨_, _, e1, _, y6⟩ := ha2 6 _ rfl
          cases e1
          have hglt := World.block_lt_of_cell? w _ y0
          have t0 := gb_cellN hgr y0
          have t1 := gb_cellN hgr y1
          have t2 := gb_cellN hgr y2
          have t3 := gb_cellN hgr y3
          have t4 := gb_cellN hgr y4
          have t5 := gb_cellN hgr y5
          have t6 := gb_cellN hgr y6
          simp only [Nat.add_zero, ← Nat.add_assoc] at t0 t1 t2 t3 t4 t5 t6
          clear y0 y1 y2 y3 y4 y5 y6
          clear ha1 ha2 hgr
          have hws := HN.out.2.2.2.size
          have hq1 : g1 < wr.heap.size := Nat.lt_of_lt_of_le hglz hws
          have hq2 : g2 < wr.heap.size := Nat.lt_of_lt_of_le hglt hws
          cases hb : (hdEq h1 h2 && sameF k1 k2) with
          | true =>
            rw [hb] at HE
            have HB := Lib.hid (show sameF f g = sameF n1 n2 by rw [HS.out.1, hb]; rfl)
            clear hb
            go_wp2_with fail
            refine (HE.out _ ?gg).mono ?_
            case gg => exact (by repeat (first | (with_reducible exact gb_refl _ _) | (with_reducible assumption) | (with_reducible exact gb_none (by assumption)) | (with_reducible refine gb_alloc ?_ _) | (with_reducible refine gb_drew ?_) | (with_reducible refine gb_drewN ?_ _) | ((with_reducible refine gb_set ?_ _ _ ?h2); case h2 => first | exact .inl rfl | exact .inr (Nat.le_refl _) | exact .inr (by simp <;> omega)) | (with_reducible refine gb_sub ?_ (by assumption)) | (with_reducible refine gb_trans ?_ (by assumption))))
            rintro e w5 ⟨rfl, g5⟩
            have gg := gb_trans HN.out.2.2.2 (gb_trans (by repeat (first | (with_reducible exact gb_refl _ _) | (with_reducible assumption) | (with_reducible exact gb_none (by assumption)) | (with_reducible refine gb_alloc ?_ _) | (with_reducible refine gb_drew ?_) | (with_reducible refine gb_drewN ?_ _) | ((with_reducible refine gb_set ?_ _ _ ?h2); case h2 => first | exact .inl rfl | exact .inr (Nat.le_refl _) | exact .inr (by simp <;> omega)) | (with_reducible refine gb_sub ?_ (by assumption)) | (with_reducible refine gb_trans ?_ (by assumption)))) g5)
            have HG := Lib.hid gg
            clear gg g5
            go_wp2
            go_roundg n1.len
            case measure => omega
            case rel => exact ⟨n1, n2, k + 1, rfl, by omega, HS.out.2, by go_num, HN.out.1, HB.out, HN.out.2.1, HN.out.2.2.1, HG.out⟩
          | false =>
            rw [hb] at HE
            have HB := Lib.hid (show sameF f g = false by rw [HS.out.1, hb]; rfl)
            clear hb
            go_wp2_with fail
            refine (HE.out _ ?gg2).mono ?_
            case gg2 => exact (by repeat (first | (with_reducible exact gb_refl _ _) | (with_reducible assumption) | (with_reducible exact gb_none (by assumption)) | (with_reducible refine gb_alloc ?_ _) | (with_reducible refine gb_drew ?_) | (with_reducible refine gb_drewN ?_ _) | ((with_reducible refine gb_set ?_ _ _ ?h2); case h2 => first | exact .inl rfl | exact .inr (Nat.le_refl _) | exact .inr (by simp <;> omega)) | (with_reducible refine gb_sub ?_ (by assumption)) | (with_reducible refine gb_trans ?_ (by assumption))))
            rintro e w5 ⟨rfl, g5⟩
            have gg := gb_trans HN.out.2.2.2 (gb_trans (by repeat (first | (with_reducible exact gb_refl _ _) | (with_reducible assumption) | (with_reducible exact gb_none (by assumption)) | (with_reducible refine gb_alloc ?_ _) | (with_reducible refine gb_drew ?_) | (with_reducible refine gb_drewN ?_ _) | ((with_reducible refine gb_set ?_ _ _ ?h2); case h2 => first | exact .inl rfl | exact .inr (Nat.le_refl _) | exact .inr (by simp <;> omega)) | (with_reducible refine gb_sub ?_ (by assumption)) | (with_reducible refine gb_trans ?_ (by assumption)))) g5)
            have HG := Lib.hid gg
            clear gg g5
            go_wp2
            go_ret
            exact ⟨by rw [HB.out]; rfl, HG.out⟩
  · have hnI : ((f.len : Int) != (g.len : Int)) = true := by simp; omega
    have hnI2 : ((f.len : Int) == (g.len : Int)) = false := by simp; omega
    have HN := Lib.hid (show sameF f g = false by cases h : sameF f g with | false => rfl | true => exact absurd (sameF_len h) hlen)
    clear hlen hf hg hE
    go_enter Tryz.func77, Tryz.ntmps77
    go_wp2
    go_ret
    exact ⟨by rw [HN.out]; rfl, (by repeat (first | (with_reducible exact gb_refl _ _) | (with_reducible assumption) | (with_reducible exact gb_none (by assumption)) | (with_reducible refine gb_alloc ?_ _) | (with_reducible refine gb_drew ?_) | (with_reducible refine gb_drewN ?_ _) | ((with_reducible refine gb_set ?_ _ _ ?h2); case h2 => first | exact .inl rfl | exact .inr (Nat.le_refl _) | exact .inr (by simp <;> omega)) | (with_reducible refine gb_sub ?_ (by assumption)) | (with_reducible refine gb_trans ?_ (by assumption))))⟩

theorem wt_pos {h : Hd} {k n : Fo} : k.wt < (Fo.cons h k n).wt ∧ n.wt < (Fo.cons h k n).wt := by simp only [Fo.wt]; omega

set_option maxRecDepth 20000 in
set_option maxHeartbeats 1000000 in
theorem sameExprs_N : ∀ (N : Nat) (f g : Fo), f.wt < N → ∀ (ok ok' : Nat → Prop) (la lb : Option Addr) (lc ld : Nat) (w : World), RepL ok w (.slice la f.len lc) f → RepL ok' w (.slice lb g.len ld) g →
    Calls Tryz.prog 43 #[.slice la f.len lc, .slice lb g.len ld] w fun e w' => e = .returned (.bool (sameF f g)) ∧ w.grownBy w' none := by
  intro N
  induction N with
  | zero => intro f g hN; omega
  | succ N ih =>
    intro f g hN ok ok' la lb lc ld w hf hg
    have HE := Lib.hid (equalFunc_N f g ok ok' la lb lc ld w hf hg (fun h1 h2 k1 k2 pa pb la lb pc pd lc ld W hk hp1 hp2 hl1 hl2 =>
      sameExpr_step hp1 hp2 (fun W2 g2 => ih k1 k2 (by omega) _ _ la lb lc ld W2 (hl1.gb g2 (by simp)) (hl2.gb g2 (by simp)))))
    clear ih hf hg
    go_enter Tryz.func43, Tryz.ntmps43
    go_wp2_with fail
    refine HE.out.mono ?_
    rintro e w1 ⟨rfl, g1⟩
    go_wp2
    go_ret
    exact ⟨rfl, g1⟩

def sameX (x y : Ex) : Bool := hdEq x.h y.h && sameF x.kids y.kids
theorem sameX_refl (x : Ex) : sameX x x = true := by simp [sameX, hdEq, sameF_refl]

theorem refSameExpr_any {w : World} {ok ok' : Nat → Prop} {u v : Value} {x y : Ex} (hx : VE ok w u x) (hy : VE ok' w v y) :
    Calls Tryz.prog 11 #[u, v] w fun e w' => e = .returned (.bool (sameX x y)) ∧ w.grownBy w' none := by
  obtain ⟨pa, pc, la, lc, rfl, hp, hl⟩ := hx
  obtain ⟨pb, pd, lb, ld, rfl, hp2, hl2⟩ := hy
  exact refSameExpr_step hp hp2 (fun W g => refSameExprs_N _ x.kids y.kids (Nat.lt_succ_self _) _ _ la lb lc ld W (hl.gb g (by simp)) (hl2.gb g (by simp)))
theorem sameExpr_any {w : World} {ok ok' : Nat → Prop} {u v : Value} {x y : Ex} (hx : VE ok w u x) (hy : VE ok' w v y) :
    Calls Tryz.prog 16 #[u, v] w fun e w' => e = .returned (.bool (sameX x y)) ∧ w.grownBy w' none := by
  obtain ⟨pa, pc, la, lc, rfl, hp, hl⟩ := hx
  obtain ⟨pb, pd, lb, ld, rfl, hp2, hl2⟩ := hy
  exact sameExpr_step hp hp2 (fun W g => sameExprs_N _ x.kids y.kids (Nat.lt_succ_self _) _ _ la lb lc ld W (hl.gb g (by simp)) (hl2.gb g (by simp)))

end Go.Proofs.YtmcajbhljbbglaaGreatDoor

namespace Go.Proofs.YtmcajbhljbbglaaGreatDoor
open Go.RowKit

def SomeN (w : World) (e : Ending) (w' : World) : Prop := ∃ n : Int, e = .returned (.int .i64 n) ∧ w.grownBy w' none
def SomeB (w : World) (e : Ending) (w' : World) : Prop := ∃ b : Bool, e = .returned (.bool b) ∧ w.grownBy w' none

set_option maxRecDepth 40000 in
set_option maxHeartbeats 4000000 in
theorem heavy_N : ∀ (N : Nat) (f : Fo), f.wt < N → ∀ (ok : Nat → Prop) (la : Option Addr) (lc : Nat) (w : World), RepL ok w (.slice la f.len lc) f →
    Calls Tryz.prog 41 #[.slice la f.len lc] w (SomeN w) := by
  intro N
  induction N with
  | zero => intro f hN; omega
  | succ N ih =>
    intro f hN ok la lc w hf
    obtain ⟨cs, hc1, hr1⟩ := hf
    obtain ⟨_, _, e, hle, hmx, _, hc1⟩ := hc1
    cases e
    have hmax : f.len ≤ maxLen := by omega
    unfold maxLen at hmax
    clear hle hmx
    have HC := Lib.hid (And.intro hc1 ih)
    have HR := Lib.hid hr1
    clear hc1 ih hr1
    go_enter Tryz.func41, Tryz.ntmps41
    go_wp2_with fail
    go_loopg [3, 4] f.len (fun g v3 v4 wr => ∃ rf : Fo, ∃ k : Nat, ∃ n : Int, rf.len = g ∧ k + g = f.len ∧ v3 = .int .i64 n ∧ v4 = .int .i64 k ∧ rf.wt ≤ f.wt ∧ RepF ok w rf (cs.drop (k * 7)) ∧ w.grownBy wr none)
    case atStart => exact ⟨f, 0, _, rfl, by omega, rfl, rfl, Nat.le_refl _, by simpa using HR.out, gb_refl _ _⟩
    case round =>
      obtain ⟨rf, k, n, hn, hk, rfl, rfl, hno, hrf, hgr⟩ := hrel
      clear HR
      cases rf with
      | nil =>
        have hkI : decide (k < f.len) = false := by simp [Fo.len] at hn; simp; omega
        have HG := Lib.hid hgr
        clear hgr hn hrf
        go_wp2
        go_ret
        exact ⟨_, rfl, HG.out⟩
      | cons h1 k1 n1 =>
        simp only [Fo.len] at hn
        simp only [Fo.wt] at hno
        subst hn
        have hkI : decide (k < f.len) = true := by simp; omega
        by_cases hlim : n < 65536
        · have hnI : decide (n < 65536) = true := by simpa using hlim
          obtain ⟨pa1, pc1, lb1, ld1, hp1, hl1, hx1, ha1⟩ := RepF.elem (n := f.len) (lc := lc) (f := f) HC.out.1 hrf
          have hkf : k + 1 ≤ f.len := by omega
          have HE := Lib.hid (fun (W : World) (gW : wr.grownBy W none) => HC.out.2 k1 (by omega) ok lb1 ld1 W (hl1.gb (gb_trans hgr gW) (by simp)))
          have hpm : h1.p.length ≤ maxLen := by obtain ⟨_, _, e, h3, h4, _⟩ := hp1; omega
          unfold maxLen at hpm
          have HN := Lib.hid (And.intro (show n1.wt ≤ f.wt by omega) (And.intro hx1 (And.intro hgr hp1.at1.2)))
          clear hno hrf hp1 hl1 hx1
          obtain ⟨g1, o1, rfl, hokz, y0⟩ := ha1 0 _ rfl
          obtain ⟨_, _, e1, _, y1⟩ := ha1 1 _ rfl
          cases e1
          obtain ⟨_, _, e1, _, y2⟩ := ha1 2 _ rfl
          cases e1
          obtain ⟨_, _, e1, _, y3⟩ := ha1 3 _ rfl
          cases e1
          obtain ⟨_, _, e1, _, y4⟩ := ha1 4 _ rfl
          cases e1
          obtain ⟨_, _, e1, _, y5⟩ := ha1 5 _ rfl
          cases e1
          obtain ⟨_, _, e1, _, y6⟩ := ha1 6 _ rfl
          cases e1
          have hglz := World.block_lt_of_cell? w _ y0
          have z0 := gb_cellN hgr y0
          have z1 := gb_cellN hgr y1
          have z2 := gb_cellN hgr y2
          have z3 := gb_cellN hgr y3
          have z4 := gb_cellN hgr y4
          have z5 := gb_cellN hgr y5
          have z6 := gb_cellN hgr y6
          simp only [Nat.add_zero, ← Nat.add_assoc] at z0 z1 z2 z3 z4 z5 z6
          clear y0 y1 y2 y3 y4 y5 y6
          clear ha1 hgr
          have hws := HN.out.2.2.1.size
          have HZ5 := Lib.hid z5
          have i0 : (0 : Int) ≤ (k : Int) := by omega
          have i1 : (k : Int) < (f.len : Int) := by omega
          have i2 : k < f.len := by omega
          clear z0 z2 z3 z5
          go_wp2_with fail
          go_region_held3 (fun W => W.cell? ⟨g1, o1 + k * 7 + 1, none⟩ = some (str h1.s) ∧ W.cell? ⟨g1, o1 + k * 7 + 4, none⟩ = some (str h1.vs) ∧ W.cell? ⟨g1, o1 + k * 7 + 6, none⟩ = some (.slice lb1 k1.len ld1) ∧ wr.grownBy W none) (first | exact ⟨z1, z4, z6, gb_drew (gb_refl wr none)⟩ | exact ⟨gb_cellN g5 z1, gb_cellN g5 z4, gb_cellN g5 z6, gb_sub (gb_drew (gb_refl wr none)) g5⟩) (first | (go_at_call 41; refine (HE.out _ ?_).mono ?_; (simp [*]); rintro e w5 ⟨n5, rfl, g5⟩))
          all_goals
            have gA : wr.grownBy w5 none := gb_sub (gb_drew (gb_refl wr none)) g5
            have HZ := Lib.hid (And.intro gA HZ5.out)
            clear gA g5
            go_wp2_with fail
            go_loopg [3, 5] h1.p.length (fun g v3 v5 w2 => ∃ j : Nat, ∃ n : Int, j + g = h1.p.length ∧ v3 = .int .i64 n ∧ v5 = .int .i64 j ∧ wr.grownBy w2 none)
            case atStart => exact ⟨0, _, by omega, rfl, rfl, HZ.out.1⟩
            case round =>
              obtain ⟨j, n2, hj, rfl, rfl, hg2⟩ := hrel
              have y5 := gb_cellN hg2 HZ.out.2
              by_cases hjl : j < h1.p.length
              · have hjI : decide (j < h1.p.length) = true := by simpa using hjl
                obtain ⟨gp, op, rfl, hcp⟩ := HN.out.2.2.2 j hjl
                have t0 := gb_cellN (gb_trans HN.out.2.2.1 hg2) hcp
                have HG := Lib.hid hg2
                clear hcp hg2
                generalize h1.p.getD j [] = s at *
                go_wp2
                go_roundg (h1.p.length - (j + 1))
                case measure => omega
                case rel => exact ⟨j + 1, _, by omega, rfl, by go_num, HG.out⟩
              · have hjI : decide (j < h1.p.length) = false := by simpa using hjl
                have HG := Lib.hid (gb_trans HN.out.2.2.1 hg2)
                clear hg2
                go_wp2
                go_roundg n1.len
                case measure => omega
                case rel => exact ⟨n1, k + 1, _, rfl, by omega, rfl, by go_num, HN.out.1, HN.out.2.1, HG.out⟩
        · have hnI : decide (n < 65536) = false := by simpa using hlim
          have HG := Lib.hid hgr
          clear hgr hrf
          go_wp2
          go_ret
          exact ⟨_, rfl, HG.out⟩

end Go.Proofs.YtmcajbhljbbglaaGreatDoor
