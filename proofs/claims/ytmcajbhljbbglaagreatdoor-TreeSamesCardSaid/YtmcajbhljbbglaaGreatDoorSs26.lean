/-
  Same of the reference: two programs.
  Same of the program: two programs.
  The words of statements on the reference's side; tree.Words; SameTexts.
-/
import Derived.Test.YtmcajbhljbbglaaGreatDoorSs25
import Derived.Test.YtmcajbhljbbglaaGreatDoorSs10
import Derived.Test.YtmcajbhljbbglaaGreatDoorSs21
set_option linter.all false
set_option linter.unusedVariables false
set_option linter.unusedSimpArgs false
set_option linter.unnecessarySimpa false
set_option linter.constructorNameAsVariable false
set_option linter.deprecated false

namespace Go.Proofs.YtmcajbhljbbglaaGreatDoor
open Go.RowKit

theorem drewN_add (w : World) (m n : Nat) : (w.drewN m).drewN n = w.drewN (m + n) := by simp [World.drewN, Nat.add_assoc]

set_option maxRecDepth 20000 in
set_option maxHeartbeats 1000000 in
theorem sameTextsQ_any {w : World} {pa pb : Option Addr} {pc pd : Nat} {l m : List Bs} {ok ok' : Nat → Prop} (h1 : Cells w (.slice pa l.length pc) 1 l.length (l.map str) ok) (h2 : Cells w (.slice pb m.length pd) 1 m.length (m.map str) ok') :
    Calls Tryz.prog 32 #[.slice pa l.length pc, .slice pb m.length pd] w fun e w' => e = .returned (.bool (textsEq l m)) ∧ ∃ q, w' = w.drewN q := by
  have hc1 := h1.at1.2
  have hc2 := h2.at1.2
  have hl : l.length ≤ maxLen := by obtain ⟨_, _, e, h3, h4, _⟩ := h1; omega
  unfold maxLen at hl
  clear h1 h2
  by_cases hn : l.length = m.length
  · have HC := Lib.hid (And.intro hc1 hc2)
    clear hc1 hc2
    have hnI : ((l.length : Int) != (m.length : Int)) = false := by simp; omega
    have hnI2 : ((l.length : Int) == (m.length : Int)) = true := by simp; omega
    have HN := Lib.hid hn
    clear hn
    go_enter Tryz.func32, Tryz.ntmps32
    go_wp2_with fail
    go_loopg [5] l.length (fun g v5 wr => ∃ k : Nat, k + g = l.length ∧ v5 = .int .i64 k ∧ (∀ j, j < k → l.getD j [] = m.getD j []) ∧ ∃ q, wr = w.drewN q)
    case atStart => exact ⟨0, by omega, rfl, fun j hj => by omega, 0, rfl⟩
    case round =>
      obtain ⟨k, hg, rfl, hp, q, rfl⟩ := hrel
      have hgr : w.grownBy (w.drewN q) none := gb_drewN (gb_refl _ _) q
      by_cases hk : k < l.length
      · obtain ⟨g1, o1, rfl, c1⟩ := HC.out.1 k hk
        obtain ⟨g2, o2, rfl, c2⟩ := HC.out.2 k (by have := HN.out; omega)
        have hkm : k < m.length := by have := HN.out; omega
        have hkI : decide (k < l.length) = true := by simpa using hk
        have HP := Lib.hid hp
        have HG := Lib.hid hgr
        clear hp hgr
        generalize hs1 : l.getD k [] = s at *
        generalize hs2 : m.getD k [] = t at *
        by_cases he : s = t
        · have HE := Lib.hid (show l.getD k [] = m.getD k [] by rw [hs1, hs2, he])
          have he1 : (s == t) = true := by simpa using he
          have he2 : (s != t) = false := by simpa using he
          clear he hs1 hs2
          go_wp2_with fail
          go_quiet (fail)
          go_wp2
          go_roundg (l.length - (k + 1))
          case measure => omega
          case rel => exact ⟨k + 1, by omega, by go_num, fun j hj => by rcases Nat.lt_succ_iff_lt_or_eq.1 hj with h | rfl; exact HP.out j h; exact HE.out, (by first | exact ⟨_, rfl⟩ | exact ⟨_, drewN_add _ _ _⟩)⟩
        · have HE := Lib.hid (textsEq_at (l := l) (m := m) (k := k) (by rw [hs1, hs2]; exact he))
          have he1 : (s == t) = false := by simpa using he
          have he2 : (s != t) = true := by simpa using he
          clear he hs1 hs2
          go_wp2_with fail
          go_quiet (fail)
          go_wp2
          go_ret
          exact ⟨by rw [HE.out]; rfl, (by first | exact ⟨_, rfl⟩ | exact ⟨_, drewN_add _ _ _⟩)⟩
      · have hkI : decide (k < l.length) = false := by simpa using hk
        have HE := Lib.hid (textsEq_all HN.out (fun j hj => hp j (by omega)))
        have HG := Lib.hid hgr
        clear hp hgr
        go_wp2
        go_ret
        exact ⟨by rw [HE.out]; rfl, (by first | exact ⟨_, rfl⟩ | exact ⟨_, drewN_add _ _ _⟩)⟩
  · have hnI : ((l.length : Int) != (m.length : Int)) = true := by simp; omega
    have hnI2 : ((l.length : Int) == (m.length : Int)) = false := by simp; omega
    have HN := Lib.hid (textsEq_len hn)
    clear hn hc1 hc2
    go_enter Tryz.func32, Tryz.ntmps32
    go_wp2
    go_ret
    exact ⟨by rw [HN.out]; rfl, 0, rfl⟩

theorem eight_gb {w W W1 : World} {a b m n : Nat} {u0 u1 u2 u3 u4 u5 u6 u7 : Value} (h : W.cell? ⟨a, m, none⟩ = some u0 ∧ W.cell? ⟨a, m + 1, none⟩ = some u1 ∧ W.cell? ⟨a, m + 2, none⟩ = some u2 ∧ W.cell? ⟨a, m + 3, none⟩ = some u3 ∧ W.cell? ⟨b, n, none⟩ = some u4 ∧ W.cell? ⟨b, n + 1, none⟩ = some u5 ∧ W.cell? ⟨b, n + 2, none⟩ = some u6 ∧ W.cell? ⟨b, n + 3, none⟩ = some u7 ∧ w.grownBy W none) (g : W.grownBy W1 none) : W1.cell? ⟨a, m, none⟩ = some u0 ∧ W1.cell? ⟨a, m + 1, none⟩ = some u1 ∧ W1.cell? ⟨a, m + 2, none⟩ = some u2 ∧ W1.cell? ⟨a, m + 3, none⟩ = some u3 ∧ W1.cell? ⟨b, n, none⟩ = some u4 ∧ W1.cell? ⟨b, n + 1, none⟩ = some u5 ∧ W1.cell? ⟨b, n + 2, none⟩ = some u6 ∧ W1.cell? ⟨b, n + 3, none⟩ = some u7 ∧ w.grownBy W1 none := by
  obtain ⟨h0, h1, h2, h3, h4, h5, h6, h7, k⟩ := h
  exact ⟨gb_cellN g h0, gb_cellN g h1, gb_cellN g h2, gb_cellN g h3, gb_cellN g h4, gb_cellN g h5, gb_cellN g h6, gb_cellN g h7, gb_trans k g⟩

set_option maxRecDepth 40000 in
set_option maxHeartbeats 8000000 in
theorem refSame_any {w : World} {ok ok' : Nat → Prop} {la lb : Option Addr} {lc ld : Nat} {a b : List Pd} (ha : RepQ ok w (.slice la a.length lc) a) (hb : RepQ ok' w (.slice lb b.length ld) b) :
    Calls Tryz.prog 14 #[.slice la a.length lc, .slice lb b.length ld] w fun e w' => e = .returned (.bool (sameP a b)) ∧ w.grownBy w' none := by
  by_cases hlen : a.length = b.length
  · obtain ⟨cs, hc1, hr1⟩ := ha
    obtain ⟨ds, hc2, hr2⟩ := hb
    obtain ⟨_, _, e, hle, hmx, _, hc1⟩ := hc1
    cases e
    obtain ⟨_, _, e, _, _, _, hc2⟩ := hc2
    cases e
    have hmax : a.length ≤ maxLen := by omega
    unfold maxLen at hmax
    clear hle hmx
    have hnI : ((a.length : Int) != (b.length : Int)) = false := by simp; omega
    have hnI2 : ((a.length : Int) == (b.length : Int)) = true := by simp; omega
    have HC := Lib.hid (And.intro hc1 (And.intro hc2 hlen))
    have HR := Lib.hid (And.intro hr1 hr2)
    clear hc1 hc2 hlen hr1 hr2
    go_enter Tryz.func14, Tryz.ntmps14
    go_wp2_with fail
    go_loopg [5] a.length (fun n v5 wr => ∃ ra rb : List Pd, ∃ k : Nat, ra.length = n ∧ k + n = a.length ∧ ra.length = rb.length ∧ v5 = .int .i64 k ∧ sameP a b = sameP ra rb ∧ RepP ok w ra (cs.drop (k * 4)) ∧ RepP ok' w rb (ds.drop (k * 4)) ∧ w.grownBy wr none)
    case atStart => exact ⟨a, b, 0, rfl, by omega, HC.out.2.2, rfl, rfl, by simpa using HR.out.1, by simpa using HR.out.2, gb_refl _ _⟩
    case round =>
      obtain ⟨ra, rb, k, hn, hk, hl, rfl, hs, hra, hrb, hgr⟩ := hrel
      clear HR
      cases ra with
      | nil =>
        cases rb with
        | cons _ _ => simp at hl
        | nil =>
          have hkI : decide (k < a.length) = false := by simp at hn; simp; omega
          have HS := Lib.hid (show sameP a b = true by rw [hs]; rfl)
          have HG := Lib.hid hgr
          clear hs hgr hn hl hra hrb
          go_wp2
          go_ret
          exact ⟨by rw [HS.out]; rfl, HG.out⟩
      | cons h1 n1 =>
        cases rb with
        | nil => simp at hl
        | cons h2 n2 =>
          simp only [List.length_cons] at hn hl
          subst hn
          obtain ⟨pa1, ba1, pc1, bc1, hp1, hB1, hx1, ha1⟩ := RepP.elem HC.out.1 hra
          obtain ⟨pa2, ba2, pc2, bc2, hp2, hB2, hx2, ha2⟩ := RepP.elem HC.out.2.1 hrb
          have hkI : decide (k < a.length) = true := by simp; omega
          have hkg : k < b.length := by have := HC.out.2.2; omega
          have hkf : k + 1 ≤ a.length := by omega
          have i0 : (0 : Int) ≤ (k : Int) := by omega
          have i1 : (k : Int) < (a.length : Int) := by omega
          have i2 : k < a.length := by omega
          have i3 : (k : Int) < (b.length : Int) := by omega
          have HS := Lib.hid (And.intro (show sameP a b = (pdEq h1 h2 && sameP n1 n2) from hs) (show n1.length = n2.length by omega))
          have HT := Lib.hid (fun (W : World) (gW : wr.grownBy W none) => sameTextsQ_any (hp1.gb (gb_trans hgr gW) (by simp)) (hp2.gb (gb_trans hgr gW) (by simp)))
          have HB := Lib.hid (fun (W : World) (gW : wr.grownBy W none) => sameBlock_any (hB1.gb (gb_trans hgr gW) (by simp)) (hB2.gb (gb_trans hgr gW) (by simp)))
          have HN := Lib.hid (And.intro hx1 (And.intro hx2 hgr))
          clear hs hl hra hrb hp1 hB1 hx1 hp2 hB2 hx2
          obtain ⟨g1, o1, rfl, hokz, y0⟩ := ha1 0 _ rfl
          obtain ⟨_, _, e1, _, y1⟩ := ha1 1 _ rfl
          cases e1
          obtain ⟨_, _, e1, _, y2⟩ := ha1 2 _ rfl
          cases e1
          obtain ⟨_, _, e1, _, y3⟩ := ha1 3 _ rfl
          cases e1
          have hglz := World.block_lt_of_cell? w _ y0
          have z0 := gb_cellN hgr y0
          have z1 := gb_cellN hgr y1
          have z2 := gb_cellN hgr y2
          have z3 := gb_cellN hgr y3
          simp only [Nat.add_zero, ← Nat.add_assoc] at z0 z1 z2 z3
          clear y0 y1 y2 y3
          obtain ⟨g2, o2, rfl, hokt, y0⟩ := ha2 0 _ rfl
          obtain ⟨_, _, e1, _, y1⟩ := ha2 1 _ rfl
          cases e1
          obtain ⟨_, _, e1, _, y2⟩ := ha2 2 _ rfl
          cases e1
          obtain ⟨_, _, e1, _, y3⟩ := ha2 3 _ rfl
          cases e1
          have hglt := World.block_lt_of_cell? w _ y0
          have t0 := gb_cellN hgr y0
          have t1 := gb_cellN hgr y1
          have t2 := gb_cellN hgr y2
          have t3 := gb_cellN hgr y3
          simp only [Nat.add_zero, ← Nat.add_assoc] at t0 t1 t2 t3
          clear y0 y1 y2 y3
          have hws := hgr.size
          have hq1 : g1 < wr.heap.size := Nat.lt_of_lt_of_le hglz hws
          have hq2 : g2 < wr.heap.size := Nat.lt_of_lt_of_le hglt hws
          have HK := Lib.hid (fun (W : World) (g : wr.grownBy W none) => (show W.cell? ⟨g1, o1 + k * 4, none⟩ = some (str h1.name) ∧ W.cell? ⟨g1, o1 + k * 4 + 1, none⟩ = some (.bool h1.fn) ∧ W.cell? ⟨g1, o1 + k * 4 + 2, none⟩ = some (.slice pa1 h1.p.length pc1) ∧ W.cell? ⟨g1, o1 + k * 4 + 3, none⟩ = some (.slice ba1 h1.body.len bc1) ∧ W.cell? ⟨g2, o2 + k * 4, none⟩ = some (str h2.name) ∧ W.cell? ⟨g2, o2 + k * 4 + 1, none⟩ = some (.bool h2.fn) ∧ W.cell? ⟨g2, o2 + k * 4 + 2, none⟩ = some (.slice pa2 h2.p.length pc2) ∧ W.cell? ⟨g2, o2 + k * 4 + 3, none⟩ = some (.slice ba2 h2.body.len bc2) ∧ wr.grownBy W none from ⟨gb_cellN g z0, gb_cellN g z1, gb_cellN g z2, gb_cellN g z3, gb_cellN g t0, gb_cellN g t1, gb_cellN g t2, gb_cellN g t3, g⟩))
          have HGR := Lib.hid hgr
          clear ha1 ha2 hgr
          cases c_n : (h1.name == h2.name) with
          | false =>
            have d_n : (h1.name != h2.name) = true := by simp [bne, c_n]
            have HF := Lib.hid (show sameP a b = false by rw [HS.out.1]; simp [pdEq, c_n])
            go_wp2_with fail
            go_quiet (fail)
            go_wp2
            go_ret
            exact ⟨by rw [HF.out]; rfl, gb_drewN HN.out.2.2 _⟩
          | true =>
            have d_n : (h1.name != h2.name) = false := by simp [bne, c_n]
            cases c_f : (h1.fn == h2.fn) with
            | false =>
              have d_f : (h1.fn != h2.fn) = true := by simp only [bne, c_f]; rfl
              have HF := Lib.hid (show sameP a b = false by rw [HS.out.1]; unfold pdEq; rw [c_f]; simp)
              go_wp2_with fail
              go_quiet (fail)
              go_wp2
              go_ret
              exact ⟨by rw [HF.out]; rfl, gb_drewN HN.out.2.2 _⟩
            | true =>
              have d_f : (h1.fn != h2.fn) = false := by simp only [bne, c_f]; rfl
              cases c_p : textsEq h1.p h2.p with
              | false =>
                rw [c_p] at HT
                have HF := Lib.hid (show sameP a b = false by rw [HS.out.1]; simp [pdEq, c_p])
                clear c_p
                go_wp2_with fail
                go_quiet ((go_at_call 32; refine (HT.out _ (gb_drewN (gb_refl _ _) _)).mono ?_; rintro e w9 ⟨rfl, q9, rfl⟩; exact ⟨rfl, _, drewN_add _ _ _⟩))
                go_wp2
                go_ret
                exact ⟨by rw [HF.out]; rfl, gb_drewN HN.out.2.2 _⟩
              | true =>
                rw [c_p] at HT
                have HT2 := Lib.hid (fun (W : World) (gW : wr.grownBy W none) => (HT.out W gW).mono (R' := fun e w' => e = .returned (.bool true) ∧ W.grownBy w' none) (by rintro e w' ⟨rfl, q, rfl⟩; exact ⟨rfl, gb_drewN (gb_refl _ _) _⟩))
                clear HT
                have HT := HT2
                clear HT2 z0 z1 z2 z3 t0 t1 t2 t3
                cases c_b : sameB h1.body h2.body with
                | false =>
                  rw [c_b] at HB
                  have HF := Lib.hid (show sameP a b = false by rw [HS.out.1]; simp [pdEq, c_b])
                  clear c_p c_b
                  go_wp2_with fail
                  go_region_held3 (fun W => W.cell? ⟨g1, o1 + k * 4, none⟩ = some (str h1.name) ∧ W.cell? ⟨g1, o1 + k * 4 + 1, none⟩ = some (.bool h1.fn) ∧ W.cell? ⟨g1, o1 + k * 4 + 2, none⟩ = some (.slice pa1 h1.p.length pc1) ∧ W.cell? ⟨g1, o1 + k * 4 + 3, none⟩ = some (.slice ba1 h1.body.len bc1) ∧ W.cell? ⟨g2, o2 + k * 4, none⟩ = some (str h2.name) ∧ W.cell? ⟨g2, o2 + k * 4 + 1, none⟩ = some (.bool h2.fn) ∧ W.cell? ⟨g2, o2 + k * 4 + 2, none⟩ = some (.slice pa2 h2.p.length pc2) ∧ W.cell? ⟨g2, o2 + k * 4 + 3, none⟩ = some (.slice ba2 h2.body.len bc2) ∧ wr.grownBy W none) (first | exact HK.out _ (gb_drew (gb_refl wr none)) | exact eight_gb (by assumption) g5) (first | (go_at_call 32; refine (HT.out _ ?_).mono ?_; (simp [*]); rintro e w5 ⟨rfl, g5⟩) | (go_at_call 40; refine (HB.out _ ?_).mono ?_; (simp [*]); rintro e w5 ⟨rfl, g5⟩))
                  all_goals
                    rename_i hH
                    have HG := Lib.hid (gb_trans HN.out.2.2 hH.2.2.2.2.2.2.2.2)
                    clear hH
                    go_wp2
                    go_ret
                    exact ⟨by rw [HF.out]; rfl, HG.out⟩
                | true =>
                  rw [c_b] at HB
                  have HF := Lib.hid (show sameP a b = sameP n1 n2 by rw [HS.out.1]; unfold pdEq; rw [c_n, c_f, c_p, c_b]; rfl)
                  clear c_p c_b
                  go_wp2_with fail
                  go_region_held3 (fun W => W.cell? ⟨g1, o1 + k * 4, none⟩ = some (str h1.name) ∧ W.cell? ⟨g1, o1 + k * 4 + 1, none⟩ = some (.bool h1.fn) ∧ W.cell? ⟨g1, o1 + k * 4 + 2, none⟩ = some (.slice pa1 h1.p.length pc1) ∧ W.cell? ⟨g1, o1 + k * 4 + 3, none⟩ = some (.slice ba1 h1.body.len bc1) ∧ W.cell? ⟨g2, o2 + k * 4, none⟩ = some (str h2.name) ∧ W.cell? ⟨g2, o2 + k * 4 + 1, none⟩ = some (.bool h2.fn) ∧ W.cell? ⟨g2, o2 + k * 4 + 2, none⟩ = some (.slice pa2 h2.p.length pc2) ∧ W.cell? ⟨g2, o2 + k * 4 + 3, none⟩ = some (.slice ba2 h2.body.len bc2) ∧ wr.grownBy W none) (first | exact HK.out _ (gb_drew (gb_refl wr none)) | exact eight_gb (by assumption) g5) (first | (go_at_call 32; refine (HT.out _ ?_).mono ?_; (simp [*]); rintro e w5 ⟨rfl, g5⟩) | (go_at_call 40; refine (HB.out _ ?_).mono ?_; (simp [*]); rintro e w5 ⟨rfl, g5⟩))
                  all_goals
                    rename_i hH
                    have HG := Lib.hid (gb_trans HN.out.2.2 hH.2.2.2.2.2.2.2.2)
                    clear hH
                    go_wp2
                    go_roundg n1.length
                    case measure => omega
                    case rel => exact ⟨n1, n2, k + 1, rfl, by omega, HS.out.2, by go_num, HF.out, HN.out.1, HN.out.2.1, HG.out⟩
  · have hnI : ((a.length : Int) != (b.length : Int)) = true := by simp; omega
    have hnI2 : ((a.length : Int) == (b.length : Int)) = false := by simp; omega
    have HN := Lib.hid (show sameP a b = false by cases h : sameP a b with | false => rfl | true => exact absurd (sameP_len h) hlen)
    clear hlen ha hb
    go_enter Tryz.func14, Tryz.ntmps14
    go_wp2
    go_ret
    exact ⟨by rw [HN.out]; rfl, (by repeat (first | (with_reducible exact gb_refl _ _) | (with_reducible assumption) | (with_reducible exact gb_none (by assumption)) | (with_reducible refine gb_alloc ?_ _) | (with_reducible refine gb_drew ?_) | (with_reducible refine gb_drewN ?_ _) | ((with_reducible refine gb_set ?_ _ _ ?h2); case h2 => first | exact .inl rfl | exact .inr (Nat.le_refl _) | exact .inr (by simp <;> omega)) | (with_reducible refine gb_sub ?_ (by assumption)) | (with_reducible refine gb_trans ?_ (by assumption))))⟩

end Go.Proofs.YtmcajbhljbbglaaGreatDoor

namespace Go.Proofs.YtmcajbhljbbglaaGreatDoor
open Go.RowKit

set_option maxRecDepth 40000 in
set_option maxHeartbeats 4000000 in
theorem same1_step {w : World} {h1 h2 : Pd} {pa1 ba1 pa2 ba2 : Option Addr} {pc1 bc1 pc2 bc2 : Nat} (hp1 : Cells w (.slice pa1 h1.p.length pc1) 1 h1.p.length (h1.p.map str) (fun _ => True)) (hp2 : Cells w (.slice pa2 h2.p.length pc2) 1 h2.p.length (h2.p.map str) (fun _ => True)) (hB1 : RepV (fun _ => True) w false (.slice ba1 h1.body.len bc1) h1.body) (hB2 : RepV (fun _ => True) w false (.slice ba2 h2.body.len bc2) h2.body) :
    Calls Tryz.prog 46 #[.agg #[str h1.name, .bool h1.fn, (.slice pa1 h1.p.length pc1), (.slice ba1 h1.body.len bc1)], .agg #[str h2.name, .bool h2.fn, (.slice pa2 h2.p.length pc2), (.slice ba2 h2.body.len bc2)]] w fun e w' => e = .returned (.bool (pdEq h1 h2)) ∧ w.grownBy w' none := by
  have HT := Lib.hid (fun (W : World) (g : w.grownBy W none) => And.intro (equalTexts_any (hp1.gb g (by simp)) (hp2.gb g (by simp))) (eqStmts_any _ h1.body h2.body (Nat.lt_succ_self _) _ _ _ _ W (hB1.gb g (by simp)) (hB2.gb g (by simp))))
  have HP := Lib.hid (Pair.start (t := 45) (w := w) (xs := pdC h1 (.slice pa1 h1.p.length pc1) (.slice ba1 h1.body.len bc1)) (ys := pdC h2 (.slice pa2 h2.p.length pc2) (.slice ba2 h2.body.len bc2)))
  clear hp1 hp2 hB1 hB2
  cases c_n : (h1.name == h2.name) with
  | false =>
    have HF := Lib.hid (show pdEq h1 h2 = false by simp [pdEq, c_n])
    go_enter Tryz.func46, Tryz.ntmps46
    go_wp2
    go_ret
    exact ⟨by rw [HF.out]; rfl, (by repeat (first | (with_reducible exact gb_refl _ _) | (with_reducible assumption) | (with_reducible exact gb_none (by assumption)) | (with_reducible refine gb_alloc ?_ _) | (with_reducible refine gb_drew ?_) | (with_reducible refine gb_drewN ?_ _) | ((with_reducible refine gb_set ?_ _ _ ?h2); case h2 => first | exact .inl rfl | exact .inr (Nat.le_refl _) | exact .inr (by simp <;> omega)) | (with_reducible refine gb_sub ?_ (by assumption)) | (with_reducible refine gb_trans ?_ (by assumption))))⟩
  | true =>
    cases c_f : (h1.fn == h2.fn) with
    | false =>
      have HF := Lib.hid (show pdEq h1 h2 = false by unfold pdEq; rw [c_f]; simp)
      go_enter Tryz.func46, Tryz.ntmps46
      go_wp2
      go_ret
      exact ⟨by rw [HF.out]; rfl, (by repeat (first | (with_reducible exact gb_refl _ _) | (with_reducible assumption) | (with_reducible exact gb_none (by assumption)) | (with_reducible refine gb_alloc ?_ _) | (with_reducible refine gb_drew ?_) | (with_reducible refine gb_drewN ?_ _) | ((with_reducible refine gb_set ?_ _ _ ?h2); case h2 => first | exact .inl rfl | exact .inr (Nat.le_refl _) | exact .inr (by simp <;> omega)) | (with_reducible refine gb_sub ?_ (by assumption)) | (with_reducible refine gb_trans ?_ (by assumption))))⟩
    | true =>
      have HS := Lib.hid (show pdEq h1 h2 = (textsEq h1.p h2.p && sameB h1.body h2.body) by unfold pdEq; rw [c_f, c_n]; simp)
      go_enter Tryz.func46, Tryz.ntmps46
      go_wp2_with fail
      refine ((HT.out _ HP.out.g).1).mono ?_
      rintro e w5 ⟨rfl, g5⟩
      have HP5 := Lib.hid (HP.out.gb g5)
      have HG5 := Lib.hid (gb_trans HP.out.g g5)
      clear g5
      cases c_p : textsEq h1.p h2.p with
      | false =>
        have HF := Lib.hid (show pdEq h1 h2 = false by rw [HS.out, c_p]; rfl)
        clear c_p
        go_wp2
        go_ret
        exact ⟨by rw [HF.out]; rfl, HG5.out⟩
      | true =>
        have HF := Lib.hid (show pdEq h1 h2 = sameB h1.body h2.body by rw [HS.out, c_p]; rfl)
        clear c_p
        have x_3 := HP5.out.x.cell' 3 rfl
        have y_3 := HP5.out.y.cell' 3 rfl
        go_wp2_with fail
        refine ((HT.out _ HG5.out).2).mono ?_
        rintro e w6 ⟨rfl, g6⟩
        have HG6 := Lib.hid (gb_trans HG5.out g6)
        clear g6
        go_wp2
        go_ret
        exact ⟨by rw [HF.out]; rfl, HG6.out⟩

set_option maxRecDepth 40000 in
set_option maxHeartbeats 4000000 in
theorem eqProcs_any (a b : List Pd) (la lb : Option Addr) (lc ld : Nat) (w : World) (hf : RepQ (fun _ => True) w (.slice la a.length lc) a) (hg : RepQ (fun _ => True) w (.slice lb b.length ld) b) :
    Calls Tryz.prog 45 #[.slice la a.length lc, .slice lb b.length ld, .func (.func 46) #[] #[]] w fun e w' => e = .returned (.bool (sameP a b)) ∧ w.grownBy w' none := by
  by_cases hlen : a.length = b.length
  · obtain ⟨cs, hc1, hr1⟩ := hf
    obtain ⟨ds, hc2, hr2⟩ := hg
    obtain ⟨_, _, e, hle, hmx, _, hc1⟩ := hc1
    cases e
    obtain ⟨_, _, e, _, _, _, hc2⟩ := hc2
    cases e
    have hmax : a.length ≤ maxLen := by omega
    unfold maxLen at hmax
    clear hle hmx
    have hnI : ((a.length : Int) != (b.length : Int)) = false := by simp; omega
    have hnI2 : ((a.length : Int) == (b.length : Int)) = true := by simp; omega
    have HC := Lib.hid (And.intro hc1 (And.intro hc2 hlen))
    have HR := Lib.hid (And.intro hr1 hr2)
    clear hc1 hc2 hlen hr1 hr2
    go_enter Tryz.func45, Tryz.ntmps45
    go_wp2_with fail
    go_loopg [17] a.length (fun n v17 wr => ∃ rf rg : List Pd, ∃ k : Nat, rf.length = n ∧ k + n = a.length ∧ rf.length = rg.length ∧ v17 = .int .i64 k ∧ sameP a b = sameP rf rg ∧ RepP (fun _ => True) w rf (cs.drop (k * 4)) ∧ RepP (fun _ => True) w rg (ds.drop (k * 4)) ∧ w.grownBy wr none)
    case atStart => exact ⟨a, b, 0, rfl, by omega, HC.out.2.2, rfl, rfl, by simpa using HR.out.1, by simpa using HR.out.2, gb_refl _ _⟩
    case round =>
      obtain ⟨rf, rg, k, hn, hk, hl, rfl, hs, hrf, hrg, hgr⟩ := hrel
      clear HR
      cases rf with
      | nil =>
        cases rg with
        | cons _ _ => simp at hl
        | nil =>
          have hkI : decide (k < a.length) = false := by simp at hn; simp; omega
          have HS := Lib.hid (show sameP a b = true by rw [hs]; rfl)
          have HG := Lib.hid hgr
          clear hs hgr hn hl hrf hrg
          go_wp2
          go_ret
          exact ⟨by rw [HS.out]; rfl, HG.out⟩
      | cons h1 n1 =>
        cases rg with
        | nil => simp at hl
        | cons h2 n2 =>
          simp only [List.length_cons] at hn hl
          subst hn
          obtain ⟨pa1, ba1, pc1, bc1, hp1, hB1, hx1, ha1⟩ := RepP.elem HC.out.1 hrf
          obtain ⟨pa2, ba2, pc2, bc2, hp2, hB2, hx2, ha2⟩ := RepP.elem HC.out.2.1 hrg
          have hkI : decide (k < a.length) = true := by simp; omega
          have hkg : k < b.length := by have := HC.out.2.2; omega
          have hkf : k + 1 ≤ a.length := by omega
          have HS := Lib.hid (And.intro (show sameP a b = (pdEq h1 h2 && sameP n1 n2) from hs) (show n1.length = n2.length by omega))
          have HE := Lib.hid (fun (W : World) (gW : wr.grownBy W none) => same1_step (hp1.gb (gb_trans hgr gW) (by simp)) (hp2.gb (gb_trans hgr gW) (by simp)) (hB1.gb (gb_trans hgr gW) (by simp)) (hB2.gb (gb_trans hgr gW) (by simp)))
          have HN := Lib.hid (And.intro hx1 (And.intro hx2 hgr))
          clear hs hl hrf hrg hp1 hB1 hx1 hp2 hB2 hx2
          obtain ⟨g1, o1, rfl, hokz, y0⟩ := ha1 0 _ rfl
          obtain ⟨_, _, e1, _, y1⟩ := ha1 1 _ rfl
          cases e1
          obtain ⟨_, _, e1, _, y2⟩ := ha1 2 _ rfl
          cases e1
          obtain ⟨_, _, e1, _, y3⟩ := ha1 3 _ rfl
          cases e1
          have hglz := World.block_lt_of_cell? w _ y0
          have z0 := gb_cellN hgr y0
          have z1 := gb_cellN hgr y1
          have z2 := gb_cellN hgr y2
          have z3 := gb_cellN hgr y3
          simp only [Nat.add_zero, ← Nat.add_assoc] at z0 z1 z2 z3
          clear y0 y1 y2 y3
          obtain ⟨g2, o2, rfl, hokt, y0⟩ := ha2 0 _ rfl
          obtain ⟨_, _, e1, _, y1⟩ := ha2 1 _ rfl
          cases e1
          obtain ⟨_, _, e1, _, y2⟩ := ha2 2 _ rfl
          cases e1
          obtain ⟨_, _, e1, _, y3⟩ := ha2 3 _ rfl
          cases e1
          have hglt := World.block_lt_of_cell? w _ y0
          have t0 := gb_cellN hgr y0
          have t1 := gb_cellN hgr y1
          have t2 := gb_cellN hgr y2
          have t3 := gb_cellN hgr y3
          simp only [Nat.add_zero, ← Nat.add_assoc] at t0 t1 t2 t3
          clear y0 y1 y2 y3
          clear ha1 ha2 hgr
          have hws := HN.out.2.2.size
          have hq1 : g1 < wr.heap.size := Nat.lt_of_lt_of_le hglz hws
          have hq2 : g2 < wr.heap.size := Nat.lt_of_lt_of_le hglt hws
          cases hb : pdEq h1 h2 with
          | true =>
            rw [hb] at HE
            have HB := Lib.hid (show sameP a b = sameP n1 n2 by rw [HS.out.1, hb]; rfl)
            clear hb
            go_wp2_with fail
            refine (HE.out _ ?gg).mono ?_
            case gg => exact (by repeat (first | (with_reducible exact gb_refl _ _) | (with_reducible assumption) | (with_reducible exact gb_none (by assumption)) | (with_reducible refine gb_alloc ?_ _) | (with_reducible refine gb_drew ?_) | (with_reducible refine gb_drewN ?_ _) | ((with_reducible refine gb_set ?_ _ _ ?h2); case h2 => first | exact .inl rfl | exact .inr (Nat.le_refl _) | exact .inr (by simp <;> omega)) | (with_reducible refine gb_sub ?_ (by assumption)) | (with_reducible refine gb_trans ?_ (by assumption))))
            rintro e w5 ⟨rfl, g5⟩
            have gg := gb_trans HN.out.2.2 (gb_trans (by repeat (first | (with_reducible exact gb_refl _ _) | (with_reducible assumption) | (with_reducible exact gb_none (by assumption)) | (with_reducible refine gb_alloc ?_ _) | (with_reducible refine gb_drew ?_) | (with_reducible refine gb_drewN ?_ _) | ((with_reducible refine gb_set ?_ _ _ ?h2); case h2 => first | exact .inl rfl | exact .inr (Nat.le_refl _) | exact .inr (by simp <;> omega)) | (with_reducible refine gb_sub ?_ (by assumption)) | (with_reducible refine gb_trans ?_ (by assumption)))) g5)
            have HG := Lib.hid gg
            clear gg g5
            go_wp2
            go_roundg n1.length
            case measure => omega
            case rel => exact ⟨n1, n2, k + 1, rfl, by omega, HS.out.2, by go_num, HB.out, HN.out.1, HN.out.2.1, HG.out⟩
          | false =>
            rw [hb] at HE
            have HB := Lib.hid (show sameP a b = false by rw [HS.out.1, hb]; rfl)
            clear hb
            go_wp2_with fail
            refine (HE.out _ ?gg2).mono ?_
            case gg2 => exact (by repeat (first | (with_reducible exact gb_refl _ _) | (with_reducible assumption) | (with_reducible exact gb_none (by assumption)) | (with_reducible refine gb_alloc ?_ _) | (with_reducible refine gb_drew ?_) | (with_reducible refine gb_drewN ?_ _) | ((with_reducible refine gb_set ?_ _ _ ?h2); case h2 => first | exact .inl rfl | exact .inr (Nat.le_refl _) | exact .inr (by simp <;> omega)) | (with_reducible refine gb_sub ?_ (by assumption)) | (with_reducible refine gb_trans ?_ (by assumption))))
            rintro e w5 ⟨rfl, g5⟩
            have gg := gb_trans HN.out.2.2 (gb_trans (by repeat (first | (with_reducible exact gb_refl _ _) | (with_reducible assumption) | (with_reducible exact gb_none (by assumption)) | (with_reducible refine gb_alloc ?_ _) | (with_reducible refine gb_drew ?_) | (with_reducible refine gb_drewN ?_ _) | ((with_reducible refine gb_set ?_ _ _ ?h2); case h2 => first | exact .inl rfl | exact .inr (Nat.le_refl _) | exact .inr (by simp <;> omega)) | (with_reducible refine gb_sub ?_ (by assumption)) | (with_reducible refine gb_trans ?_ (by assumption)))) g5)
            have HG := Lib.hid gg
            clear gg g5
            go_wp2
            go_ret
            exact ⟨by rw [HB.out]; rfl, HG.out⟩
  · have hnI : ((a.length : Int) != (b.length : Int)) = true := by simp; omega
    have hnI2 : ((a.length : Int) == (b.length : Int)) = false := by simp; omega
    have HN := Lib.hid (show sameP a b = false by cases h : sameP a b with | false => rfl | true => exact absurd (sameP_len h) hlen)
    clear hlen hf hg
    go_enter Tryz.func45, Tryz.ntmps45
    go_wp2
    go_ret
    exact ⟨by rw [HN.out]; rfl, (by repeat (first | (with_reducible exact gb_refl _ _) | (with_reducible assumption) | (with_reducible exact gb_none (by assumption)) | (with_reducible refine gb_alloc ?_ _) | (with_reducible refine gb_drew ?_) | (with_reducible refine gb_drewN ?_ _) | ((with_reducible refine gb_set ?_ _ _ ?h2); case h2 => first | exact .inl rfl | exact .inr (Nat.le_refl _) | exact .inr (by simp <;> omega)) | (with_reducible refine gb_sub ?_ (by assumption)) | (with_reducible refine gb_trans ?_ (by assumption))))⟩



set_option maxRecDepth 20000 in
set_option maxHeartbeats 1000000 in
theorem same_any {w : World} {la lb : Option Addr} {lc ld : Nat} {a b : List Pd} (ha : RepQ (fun _ => True) w (.slice la a.length lc) a) (hb : RepQ (fun _ => True) w (.slice lb b.length ld) b) :
    Calls Tryz.prog 18 #[.slice la a.length lc, .slice lb b.length ld] w fun e w' => e = .returned (.bool (sameP a b)) ∧ w.grownBy w' none := by
  have HE := Lib.hid (eqProcs_any a b la lb lc ld w ha hb)
  clear ha hb
  go_enter Tryz.func18, Tryz.ntmps18
  go_wp2_with fail
  refine HE.out.mono ?_
  rintro e w1 ⟨rfl, g1⟩
  go_wp2
  go_ret
  exact ⟨rfl, g1⟩

end Go.Proofs.YtmcajbhljbbglaaGreatDoor

namespace Go.Proofs.YtmcajbhljbbglaaGreatDoor
open Go.RowKit Go.Sort

set_option maxRecDepth 20000 in
set_option maxHeartbeats 1000000 in
theorem refWords_any (w : World) : Calls Tryz.prog 21 #[] w fun e w' => ∃ wv, e = .returned wv ∧ SRow w' wv wordsL (since w.heap.size) ∧ w.grownBy w' none := by
  go_enter Tryz.func21, Tryz.ntmps21
  go_wp2_with fail
  refine (Tryz.sort_Strings w.heap.size 0 wordsRaw.length wordsRaw _ (holds_words w) (by simp) (by decide +kernel)).mono ?_
  rintro e w2 ⟨rfl, n, os, rfl⟩
  rw [words_sorted]
  go_wp2
  go_ret
  have hA := World.grownBy_alloc w (.cells (wordsRaw.map fun l => Value.string ⟨l.toArray⟩).toArray 9 (0, 0)) none
  have hS := sorted_gb (os := os) (n := n) (w := w.alloc (.cells (wordsRaw.map fun l => Value.string ⟨l.toArray⟩).toArray 9 (0, 0))) (g := w.heap.size) wordsL.toArray
  refine ⟨_, rfl, ⟨_, _, rfl, Nat.le_refl _, by decide, fun j hj => ⟨w.heap.size, 0, rfl, Nat.le_refl _, ?_⟩⟩, ?_⟩
  · have hc := cell?_putRow encStr _ w.heap.size 0 wordsRaw.toArray wordsL.toArray (holds_ahead w n) (by decide) j (by simpa using hj)
    have hlt := World.block_lt_of_cell? _ _ hc
    have hb : ∀ (W : World) os (k : Nat) a, k < W.heap.size → (grow W os).cell? ⟨k, a, none⟩ = W.cell? ⟨k, a, none⟩ := fun W os k a h => by
      unfold World.cell?; rw [heap_grow_old _ _ h]
    rw [hb _ _ _ _ hlt, hc]
    simp [encStr, List.getD_eq_getElem?_getD, hj]
  · refine ⟨hS.os.trans hA.os, hS.tape.trans hA.tape, hS.output.trans hA.output, Nat.le_trans hA.size hS.size, fun k hk _ => ?_⟩
    rw [hS.block k (by simp; omega) (by simp; omega)]
    exact hA.block k hk (by simp)

set_option maxRecDepth 20000 in
set_option maxHeartbeats 1000000 in
theorem treeWords_any {w : World} (hg : Glob w) : Calls Tryz.prog 20 #[] w fun e w' => ∃ wv, e = .returned wv ∧ SRow w' wv wordsL (since w.heap.size) ∧ w.grownBy w' none := by
  have HW := Lib.hid (words_any hg)
  clear hg
  go_enter Tryz.func20, Tryz.ntmps20
  go_wp2_with fail
  refine HW.out.mono ?_
  rintro e w1 ⟨wv, rfl, hS, g1⟩
  have HS := Lib.hid (And.intro hS g1)
  obtain ⟨a, cap, rfl, _⟩ := hS
  clear g1
  go_wp2
  go_ret
  exact ⟨_, rfl, HS.out.1, HS.out.2⟩

set_option maxRecDepth 20000 in
set_option maxHeartbeats 1000000 in
theorem sameTexts01_any {w : World} {pa pb : Option Addr} {pc pd : Nat} {l m : List Bs} {ok ok' : Nat → Prop} (h1 : Cells w (.slice pa l.length pc) 1 l.length (l.map str) ok) (h2 : Cells w (.slice pb m.length pd) 1 m.length (m.map str) ok') :
    Calls Tryz.prog 19 #[.slice pa l.length pc, .slice pb m.length pd] w fun e w' => e = .returned (.bool (textsEq l m)) ∧ w.grownBy w' none := by
  have hc1 := h1.at1.2
  have hc2 := h2.at1.2
  have hl : l.length ≤ maxLen := by obtain ⟨_, _, e, h3, h4, _⟩ := h1; omega
  unfold maxLen at hl
  clear h1 h2
  by_cases hn : l.length = m.length
  · have HC := Lib.hid (And.intro hc1 hc2)
    clear hc1 hc2
    have hnI : ((l.length : Int) != (m.length : Int)) = false := by simp; omega
    have hnI2 : ((l.length : Int) == (m.length : Int)) = true := by simp; omega
    have HN := Lib.hid hn
    clear hn
    go_enter Tryz.func19, Tryz.ntmps19
    go_wp2_with fail
    go_loopg [5] l.length (fun g v5 wr => ∃ k : Nat, k + g = l.length ∧ v5 = .int .i64 k ∧ (∀ j, j < k → l.getD j [] = m.getD j []) ∧ w.grownBy wr none)
    case atStart => exact ⟨0, by omega, rfl, fun j hj => by omega, gb_refl _ _⟩
    case round =>
      obtain ⟨k, hg, rfl, hp, hgr⟩ := hrel
      by_cases hk : k < l.length
      · obtain ⟨g1, o1, rfl, c1⟩ := HC.out.1 k hk
        obtain ⟨g2, o2, rfl, c2⟩ := HC.out.2 k (by have := HN.out; omega)
        have d1 := gb_cellN hgr c1
        have d2 := gb_cellN hgr c2
        have hkm : k < m.length := by have := HN.out; omega
        have hkI : decide (k < l.length) = true := by simpa using hk
        have HP := Lib.hid hp
        have HG := Lib.hid hgr
        clear hp hgr c1 c2
        generalize hs1 : l.getD k [] = s at *
        generalize hs2 : m.getD k [] = t at *
        by_cases he : s = t
        · have HE := Lib.hid (show l.getD k [] = m.getD k [] by rw [hs1, hs2, he])
          have he1 : (s == t) = true := by simpa using he
          have he2 : (s != t) = false := by simpa using he
          clear he hs1 hs2
          go_wp2_with fail
          go_quiet (fail)
          go_wp2
          go_roundg (l.length - (k + 1))
          case measure => omega
          case rel => exact ⟨k + 1, by omega, by go_num, fun j hj => by rcases Nat.lt_succ_iff_lt_or_eq.1 hj with h | rfl; exact HP.out j h; exact HE.out, gb_drewN HG.out _⟩
        · have HE := Lib.hid (textsEq_at (l := l) (m := m) (k := k) (by rw [hs1, hs2]; exact he))
          have he1 : (s == t) = false := by simpa using he
          have he2 : (s != t) = true := by simpa using he
          clear he hs1 hs2
          go_wp2_with fail
          go_quiet (fail)
          go_wp2
          go_ret
          exact ⟨by rw [HE.out]; rfl, gb_drewN HG.out _⟩
      · have hkI : decide (k < l.length) = false := by simpa using hk
        have HE := Lib.hid (textsEq_all HN.out (fun j hj => hp j (by omega)))
        have HG := Lib.hid hgr
        clear hp hgr
        go_wp2
        go_ret
        exact ⟨by rw [HE.out]; rfl, HG.out⟩
  · have hnI : ((l.length : Int) != (m.length : Int)) = true := by simp; omega
    have hnI2 : ((l.length : Int) == (m.length : Int)) = false := by simp; omega
    have HN := Lib.hid (textsEq_len hn)
    clear hn hc1 hc2
    go_enter Tryz.func19, Tryz.ntmps19
    go_wp2
    go_ret
    exact ⟨by rw [HN.out]; rfl, (by repeat (first | (with_reducible exact gb_refl _ _) | (with_reducible assumption) | (with_reducible exact gb_none (by assumption)) | (with_reducible refine gb_alloc ?_ _) | (with_reducible refine gb_drew ?_) | (with_reducible refine gb_drewN ?_ _) | ((with_reducible refine gb_set ?_ _ _ ?h2); case h2 => first | exact .inl rfl | exact .inr (Nat.le_refl _) | exact .inr (by simp <;> omega)) | (with_reducible refine gb_sub ?_ (by assumption)) | (with_reducible refine gb_trans ?_ (by assumption))))⟩

end Go.Proofs.YtmcajbhljbbglaaGreatDoor
