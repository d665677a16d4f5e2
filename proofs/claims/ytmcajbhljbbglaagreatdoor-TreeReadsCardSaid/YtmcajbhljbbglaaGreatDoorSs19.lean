/-
  slices.Grow at rows of expressions: the shelf's law laid at this program.
  slices.Concat of four rows of expressions, of which the first alone holds any.
  Sizes of statements that set a value: ofStmt.
-/
import Derived.Test.YtmcajbhljbbglaaGreatDoorSs18
import Derived.Test.YtmcajbhljbbglaaGreatDoorPlain
import Derived.Shelf.Spec.SlicesGrow
import Derived.Laws.AppendOwnNone
set_option linter.all false
set_option linter.unusedVariables false
set_option linter.unusedSimpArgs false
set_option linter.unnecessarySimpa false
set_option linter.constructorNameAsVariable false
set_option linter.deprecated false

namespace Go.Proofs.YtmcajbhljbbglaaGreatDoor
open Go.RowKit

/-- nothing has been made room for, and n more are wanted -/
theorem grow_any (n : Nat) (h0 : 0 < n) (hn : n ≤ 1000000) (w : World) : Calls Tryz.prog 185 #[.slice none 0 0, .int .i64 n] w fun e w' => ∃ v, e = .returned v ∧ w'.ownsRow w.heap.size 29 7 v 0 [] ∧ w.grownBy w' none := by
  obtain ⟨i0, hi, hz0, hz1, hz2⟩ := info_parts info_ex
  refine (Any8.slices_Grow_grow Tryz.growExpr i0 _ hi hz0 (by rw [hz1]; decide) none 0 0 n [] w (Nat.le_refl _) (by omega) (by rw [hz2]; omega) (by omega) (by simp) (fun _ => rfl) (by simp)).mono ?_
  rintro e w' ⟨rfl, rfl⟩
  refine ⟨_, rfl, ?_, ?_⟩
  · refine ⟨rfl, .inr ⟨w.heap.size, _, _, rfl, Nat.le_refl _, heap_alloc_new _ _, Nat.zero_le _, ?_, ?_, ?_⟩⟩
    · exact grownCap_le_maxLen _ _ _ _ (by unfold maxLen; omega)
    · have hge := grownCap_ge w (0 + n) 0 (Tryz.growExpr_ren.t 25)
      generalize grownCap w (0 + n) 0 (Tryz.growExpr_ren.t 25) = c at *
      rw [Array.size_append, Array.size_append, size_zeroCells, size_zeroCells]
      have e7 : (Value.agg #[Value.int .i64 0, str [], Value.int .i64 0, Value.int .i64 0, str [], Value.slice none 0 0, Value.slice none 0 0]).cells.size = 7 := rfl
      rw [e7]
      simp
      omega
    · simp
  · exact gb_alloc (gb_drew (gb_refl _ _)) _
end Go.Proofs.YtmcajbhljbbglaaGreatDoor

namespace Go.Proofs.YtmcajbhljbbglaaGreatDoor
open Go.RowKit

theorem RepF.one {ok : Nat → Prop} {w : World} : ∀ {f : Fo} {cs : List Value}, RepF ok w f cs → cs.length = f.len * 7 ∧ ∀ u ∈ cs, u.oneCell' = true := by
  intro f
  induction f with
  | nil => rintro cs rfl; simp [Fo.len]
  | cons hd kids next ih1 ih2 =>
    rintro cs ⟨pv, lv, kcs, rest, rfl, h1, h2, h3, h4⟩
    obtain ⟨pa, pc, rfl, _⟩ := h1
    obtain ⟨la, lc, rfl, _⟩ := h2
    have := ih2 h4
    refine ⟨by simp [hdC, Fo.len, this.1]; omega, ?_⟩
    intro u hu
    rcases List.mem_append.1 hu with h | h
    · simp [hdC] at h
      rcases h with rfl | rfl | rfl | rfl | rfl | rfl | rfl <;> rfl
    · exact this.2 u h
theorem RepL.open {ok : Nat → Prop} {w : World} {la : Option Addr} {n lc : Nat} {f : Fo} (h : RepL ok w (.slice la n lc) f) (hf : 0 < f.len) :
    ∃ g o cs, la = some ⟨g, o, none⟩ ∧ RepF ok w f cs ∧ cs.length = f.len * 7 ∧ (∀ u ∈ cs, u.oneCell' = true) ∧ ∀ j u, cs[j]? = some u → w.cell? ⟨g, o + j, none⟩ = some u := by
  obtain ⟨cs, ⟨la', lc', e, _, _, hl, hc⟩, hF⟩ := h
  cases e
  have h1 := hF.one
  cases cs with
  | nil => simp at h1; omega
  | cons c0 cs' =>
    obtain ⟨g, o, e, _, _⟩ := hc 0 c0 rfl
    subst e
    refine ⟨g, o, _, rfl, hF, h1.1, h1.2, fun j u hj => ?_⟩
    obtain ⟨g', o', e', _, hcell⟩ := hc j u hj
    cases e'
    exact hcell

set_option maxRecDepth 20000 in
set_option maxHeartbeats 1000000 in
theorem concat_set {w : World} {R lc : Nat} {la : Option Addr} {ok : Nat → Prop} {f : Fo} (h0 : w.cell? ⟨R, 0, none⟩ = some (.slice la 2 lc)) (h1 : w.cell? ⟨R, 1, none⟩ = some (.slice none 0 0)) (h2 : w.cell? ⟨R, 2, none⟩ = some (.slice none 0 0)) (h3 : w.cell? ⟨R, 3, none⟩ = some (.slice none 0 0))
    (hf : f.len = 2) (hrep : RepL ok w (.slice la 2 lc) f) :
    Calls Tryz.prog 135 #[.slice (some ⟨R, 0, none⟩) 4 4] w fun e w' => ∃ v cs, e = .returned v ∧ w'.ownsRow w.heap.size 29 7 v 2 cs ∧ RepF ok w' f cs ∧ w.grownBy w' none := by
  obtain ⟨G, o, cs, rfl, hF, hlen, hone, hat⟩ := hrep.open (by omega)
  rw [hf] at hlen
  have HC := Lib.hid (And.intro h0 (And.intro h1 (And.intro h2 h3)))
  have HR := Lib.hid (And.intro hF (And.intro hlen (And.intro hone hat)))
  clear hf hrep hF hlen hone hat
  go_enter Tryz.func135, Tryz.ntmps135
  go_wp2_with fail
  go_loopg [3, 11] 5 (fun g v3 v11 wr => ∃ k : Nat, k + g = 5 ∧ k ≤ 4 ∧ v11 = .int .i64 k ∧ v3 = .int .i64 (if k = 0 then 0 else 2) ∧ wr = w)
  case atStart => exact ⟨0, rfl, by omega, rfl, rfl, rfl⟩
  case round =>
    obtain ⟨k, hg, hk, rfl, rfl, hw⟩ := hrel
    have hw' := hw.symm
    clear hw
    subst hw'
    have hcases : k = 0 ∨ k = 1 ∨ k = 2 ∨ k = 3 ∨ k = 4 := by omega
    rcases hcases with rfl | rfl | rfl | rfl | rfl
    · go_wp2_with fail
      go_roundg 4
      case measure => omega
      case rel => exact ⟨1, by omega, by omega, rfl, rfl, rfl⟩
    · go_wp2_with fail
      go_roundg 3
      case measure => omega
      case rel => exact ⟨2, by omega, by omega, rfl, rfl, rfl⟩
    · go_wp2_with fail
      go_roundg 2
      case measure => omega
      case rel => exact ⟨3, by omega, by omega, rfl, rfl, rfl⟩
    · go_wp2_with fail
      go_roundg 1
      case measure => omega
      case rel => exact ⟨4, by omega, by omega, rfl, rfl, rfl⟩
    · go_wp2_with fail
      refine (grow_any 2 (by decide) (by decide) _).mono ?_
      rintro e w1 ⟨v, rfl, hO, g1⟩
      have d0 := gb_cellN g1 h0
      have d1 := gb_cellN g1 h1
      have d2 := gb_cellN g1 h2
      have d3 := gb_cellN g1 h3
      have hs1 := g1.size
      have HO := Lib.hid (And.intro hO g1)
      clear hO g1 h0 h1 h2 h3
      go_wp2_with fail
      go_loopg [6, 27] 5 (fun g v6 v27 w2 => ∃ k : Nat, k + g = 5 ∧ k ≤ 4 ∧ v27 = .int .i64 k ∧ ((k = 0 ∧ v6 = v ∧ w2 = w1) ∨ (k ≠ 0 ∧ ∃ cs, w2.ownsRow w.heap.size 29 7 v6 2 cs ∧ RepF ok w2 f cs ∧ w.grownBy w2 none)))
      case atStart => exact ⟨0, rfl, by omega, rfl, .inl ⟨rfl, rfl, rfl⟩⟩
      case round =>
        obtain ⟨k, hg2, hk2, rfl, hc⟩ := hrel
        have hcases : k = 0 ∨ k = 1 ∨ k = 2 ∨ k = 3 ∨ k = 4 := by omega
        rcases hcases with rfl | rfl | rfl | rfl | rfl
        · rcases hc with ⟨_, rfl, rfl⟩ | ⟨h, _⟩
          · obtain ⟨i0, hi0, hz0, hz1, hz2⟩ := info_parts info_ex
            have HI := Lib.hid (And.intro hi0 (And.intro hz0 (And.intro hz1 hz2)))
            clear hi0 hz0 hz1 hz2
            have hat1 : ∀ j u, cs[j]? = some u → wr.cell? ((⟨G, o, none⟩ : Addr).add j) = some u := by
              intro j u hj
              have e : (⟨G, o, none⟩ : Addr).add j = ⟨G, o + j, none⟩ := by unfold Addr.add; split <;> simp_all
              rw [e]
              exact gb_cellN HO.out.2 (HR.out.2.2.2 j u hj)
            have HA := Lib.hid hat1
            clear hat1
            go_wp2_with (at_builtin; obtain ⟨hi0, hz0, hz1, hz2⟩ := HI.out; have hown := HO.out.1; refine wpList_append_x rfl _ _ 27 rfl w.heap.size 29 i0 _ 7 104 Tryz.underlying27 hi0 hz0 hz1 hz2 rfl (by decide) _ _ _ rfl hown ⟨G, o, none⟩ 2 lc cs rfl HR.out.2.1 HA.out HR.out.2.2.1 (by decide) (by decide) hs1 ?_; intro v' w5 hown5 g5 hn5; clear hi0 hz0 hz1 hz2 hown)
            have gW : w.grownBy w5 none := by
              have hlt := HO.out.1.lt
              cases hv : u6.ownBlock with
              | none =>
                have g5' : World.grownBy wr w5 u6.ownBlock := g5
                rw [hv] at g5'
                exact gb_trans HO.out.2 g5'
              | some k =>
                have g5' : World.grownBy wr w5 u6.ownBlock := g5
                rw [hv] at g5'
                exact gb_sub' HO.out.2 g5' (.inr (hlt k hv).1)
            have HO5 := Lib.hid (And.intro hown5 (And.intro (RepF.gb gW (by simp) HR.out.1) gW))
            clear hown5 gW
            go_roundg 4
            case measure => omega
            case rel => exact ⟨1, by omega, by omega, rfl, .inr ⟨by decide, cs, HO5.out.1, HO5.out.2.1, HO5.out.2.2⟩⟩
          · exact absurd rfl h
        · rcases hc with ⟨h, _⟩ | ⟨_, cs2, hO2, hF2, g2⟩
          · exact absurd h (by decide)
          have HO2 := Lib.hid (And.intro hO2 (And.intro hF2 g2))
          have e0 := gb_cellN g2 HC.out.1
          have e1 := gb_cellN g2 HC.out.2.1
          have e2 := gb_cellN g2 HC.out.2.2.1
          have e3 := gb_cellN g2 HC.out.2.2.2
          clear hO2 hF2 g2
          obtain ⟨i0, hi0, hz0, hz1, hz2⟩ := info_parts info_ex
          have HI := Lib.hid hi0
          clear hi0 hz0 hz1 hz2
          go_wp2_with (at_builtin; have hi0 := HI.out; have hown := HO2.out.1; refine wpList_append_own_none rfl _ _ 27 rfl w.heap.size 29 i0 7 Tryz.underlying27 hi0 _ _ _ rfl hown rfl ?_; clear hi0 hown)
          go_roundg 3
          case measure => omega
          case rel => exact ⟨2, by omega, by omega, rfl, .inr ⟨by decide, cs2, HO2.out.1, HO2.out.2.1, HO2.out.2.2⟩⟩
        · rcases hc with ⟨h, _⟩ | ⟨_, cs2, hO2, hF2, g2⟩
          · exact absurd h (by decide)
          have HO2 := Lib.hid (And.intro hO2 (And.intro hF2 g2))
          have e0 := gb_cellN g2 HC.out.1
          have e1 := gb_cellN g2 HC.out.2.1
          have e2 := gb_cellN g2 HC.out.2.2.1
          have e3 := gb_cellN g2 HC.out.2.2.2
          clear hO2 hF2 g2
          obtain ⟨i0, hi0, hz0, hz1, hz2⟩ := info_parts info_ex
          have HI := Lib.hid hi0
          clear hi0 hz0 hz1 hz2
          go_wp2_with (at_builtin; have hi0 := HI.out; have hown := HO2.out.1; refine wpList_append_own_none rfl _ _ 27 rfl w.heap.size 29 i0 7 Tryz.underlying27 hi0 _ _ _ rfl hown rfl ?_; clear hi0 hown)
          go_roundg 2
          case measure => omega
          case rel => exact ⟨3, by omega, by omega, rfl, .inr ⟨by decide, cs2, HO2.out.1, HO2.out.2.1, HO2.out.2.2⟩⟩
        · rcases hc with ⟨h, _⟩ | ⟨_, cs2, hO2, hF2, g2⟩
          · exact absurd h (by decide)
          have HO2 := Lib.hid (And.intro hO2 (And.intro hF2 g2))
          have e0 := gb_cellN g2 HC.out.1
          have e1 := gb_cellN g2 HC.out.2.1
          have e2 := gb_cellN g2 HC.out.2.2.1
          have e3 := gb_cellN g2 HC.out.2.2.2
          clear hO2 hF2 g2
          obtain ⟨i0, hi0, hz0, hz1, hz2⟩ := info_parts info_ex
          have HI := Lib.hid hi0
          clear hi0 hz0 hz1 hz2
          go_wp2_with (at_builtin; have hi0 := HI.out; have hown := HO2.out.1; refine wpList_append_own_none rfl _ _ 27 rfl w.heap.size 29 i0 7 Tryz.underlying27 hi0 _ _ _ rfl hown rfl ?_; clear hi0 hown)
          go_roundg 1
          case measure => omega
          case rel => exact ⟨4, by omega, by omega, rfl, .inr ⟨by decide, cs2, HO2.out.1, HO2.out.2.1, HO2.out.2.2⟩⟩
        · rcases hc with ⟨h, _⟩ | ⟨_, cs2, hO2, hF2, g2⟩
          · exact absurd h (by decide)
          have HO2 := Lib.hid (And.intro hO2 (And.intro hF2 g2))
          clear hO2 hF2 g2
          go_wp2
          go_ret
          exact ⟨_, cs2, rfl, HO2.out.1, HO2.out.2.1, HO2.out.2.2⟩
end Go.Proofs.YtmcajbhljbbglaaGreatDoor

namespace Go.Proofs.YtmcajbhljbbglaaGreatDoor
open Go.RowKit

/-- the loop of 'ofStmt' over its expressions: w: where the call began; v: where the row was made -/
structure SzS (ok : Nat → Prop) (w v : World) (la : Option Addr) (lc : Nat) (f rest : Fo) (cs : List Value) (k n m : Nat) (wr : World) : Prop where
  len : f.len = k + rest.len
  row : RepF ok v rest (cs.drop (k * 7))
  nodes : n + rest.nodes = 1 + f.nodes
  levels : max m (1 + rest.levels) = 1 + f.levels
  pos : 1 ≤ m ∧ 1 ≤ n
  st : Blk wr w.heap.size (stC 0 (.slice la 2 lc)) 50
  acc : Blk wr (w.heap.size + 2) [.int .i64 n, .int .i64 m] 58
  res : Blk wr (w.heap.size + 1) [.int .i64 0, .int .i64 0] 58
  g : w.grownBy wr none
  gv : v.grownBy wr (some (w.heap.size + 2))

theorem SzS.next {ok : Nat → Prop} {w v : World} {la : Option Addr} {lc : Nat} {f kids next : Fo} {h' : Hd} {cs : List Value} {k n m : Nat} {wr w1 : World} (h : SzS ok w v la lc f (.cons h' kids next) cs k n m wr)
    (hst : Blk w1 w.heap.size (stC 0 (.slice la 2 lc)) 50) (hacc : Blk w1 (w.heap.size + 2) [.int .i64 ((n + (1 + kids.nodes) : Nat) : Int), .int .i64 ((max m (1 + kids.levels + 1) : Nat) : Int)] 58) (hres : Blk w1 (w.heap.size + 1) [.int .i64 0, .int .i64 0] 58) (g : w.grownBy w1 none) (gv : v.grownBy w1 (some (w.heap.size + 2))) :
    SzS ok w v la lc f next cs (k + 1) (n + (1 + kids.nodes)) (max m (1 + kids.levels + 1)) w1 := by
  have h1 := h.len
  have h3 := h.nodes
  have h4 := h.levels
  have h5 := h.pos
  simp only [Fo.len, Fo.nodes, Fo.levels] at h1 h3 h4
  refine ⟨by omega, ?_, by omega, by omega, ⟨by omega, by omega⟩, hst, hacc, hres, g, gv⟩
  obtain ⟨pv, lv, kcs, rcs, hcs, _, _, _, hn⟩ := h.row
  have e : cs.drop ((k + 1) * 7) = rcs := by
    rw [show (k + 1) * 7 = k * 7 + 7 by omega, ← List.drop_drop, hcs]
    exact List.drop_left' rfl
  rw [e]
  exact hn

abbrev stmtW (w : World) (la : Option Addr) (lc : Nat) : World := (((w.alloc (.cells (stC 0 (.slice la 2 lc)).toArray 50 (0, 0))).alloc (.cells #[.int .i64 0, .int .i64 0] 58 (0, 0))).alloc (.cells #[.int .i64 1, .int .i64 1] 58 (0, 0))).alloc (.cells #[.slice la 2 lc, .slice none 0 0, .slice none 0 0, .slice none 0 0] 27 (0, 0))
theorem stmtW_blk {w : World} {la : Option Addr} {lc : Nat} : Blk (stmtW w la lc) (w.heap.size + 1 + 1 + 1) [.slice la 2 lc, .slice none 0 0, .slice none 0 0, .slice none 0 0] 27 :=
  (Blk.new _ [.slice la 2 lc, .slice none 0 0, .slice none 0 0, .slice none 0 0] _).of_eq (by simp) rfl
theorem stmtW_gb (w : World) (la : Option Addr) (lc : Nat) : w.grownBy (stmtW w la lc) none := gb_alloc (gb_alloc (gb_alloc (World.grownBy_alloc w _ none) _) _) _

set_option maxRecDepth 40000 in
set_option maxHeartbeats 4000000 in
theorem ofStmt_set {ok : Nat → Prop} {w : World} {la : Option Addr} {lc : Nat} {f : Fo} (hf : f.len = 2) (hn : f.nodes ≤ 1000000) (hrep : RepL ok w (.slice la 2 lc) f) :
    Calls Tryz.prog 100 #[.agg (stC 0 (.slice la 2 lc)).toArray] w fun e w' => e = .returned (szV ((1 + f.nodes : Nat) : Int) ((1 + f.levels : Nat) : Int)) ∧ w.grownBy w' none := by
  replace hrep := hrep.mono (ok' := fun q => q < w.heap.size) (fun _ _ h => h)
  clear ok
  have gW := stmtW_gb w la lc
  have HC := Lib.hid (concat_set (w := stmtW w la lc) (R := w.heap.size + 1 + 1 + 1) (la := la) (lc := lc) (ok := fun q => q < w.heap.size) (f := f) (stmtW_blk.cell 0) (stmtW_blk.cell 1) (stmtW_blk.cell 2) (stmtW_blk.cell 3) hf (hrep.gb gW (by simp)))
  have HR := Lib.hid (And.intro hf (And.intro hn (And.intro hrep gW)))
  clear gW
  clear hf hn hrep
  go_enter Tryz.func100, Tryz.ntmps100
  go_wp2_with fail
  refine HC.out.mono ?_
  rintro e w1 ⟨v, cs, rfl, hO, hF, g1⟩
  have g0 : w.grownBy w1 none := gb_trans HR.out.2.2.2 g1
  have hA : SzS (fun q => q < w.heap.size) w w1 la lc f f cs 0 1 1 w1 := by
    refine ⟨by simp, by simpa using hF, rfl, by omega, ⟨Nat.le_refl _, Nat.le_refl _⟩, ?_, ?_, ?_, g0, gb_refl _ _⟩
    · exact ((((Blk.new w (stC 0 (.slice la 2 lc)) 50).alloc _).alloc _).alloc _).gb g1 (by simp)
    · exact Blk.gb (((Blk.new _ [.int .i64 1, .int .i64 1] _).of_eq (by simp) rfl).alloc _) g1 (by simp)
    · exact Blk.gb ((((Blk.new _ [.int .i64 0, .int .i64 0] _).of_eq (by simp) rfl).alloc _).alloc _) g1 (by simp)
  obtain ⟨G, cap, rfl, hGb, hat0⟩ : ∃ G cap, v = .slice (some ⟨G, 0, none⟩) 2 cap ∧ w.heap.size + 3 < G ∧ ∀ j u, cs[j]? = some u → w1.cell? ⟨G, j, none⟩ = some u := by
    rcases id hO.2 with h | ⟨G, cap, cur, rfl, hGb, _⟩
    · exact absurd h.2 (by decide)
    · refine ⟨G, cap, rfl, by simp [stmtW] at hGb; omega, fun j u hj => ?_⟩
      have h1 := hO.cells (g := G) rfl j u hj
      have e : (⟨G, 0, none⟩ : Addr).add j = ⟨G, j, none⟩ := by unfold Addr.add; split <;> simp_all
      rw [e] at h1
      exact h1
  have HO := Lib.hid (And.intro hat0 hF)
  have HA := Lib.hid hA
  clear hO hF g1 g0 hat0 hA
  go_wp2_with fail
  go_loopg [23] 2 (fun g v23 wr => ∃ rest : Fo, ∃ k n m : Nat, rest.len = g ∧ v23 = .int .i64 k ∧ SzS (fun q => q < w.heap.size) w w1 la lc f rest cs k n m wr)
  case atStart => exact ⟨f, 0, 1, 1, HR.out.1, rfl, HA.out⟩
  case round =>
    obtain ⟨rest, k, n, m, hg, rfl, hr⟩ := hrel
    clear HA
    have a0 := hr.acc.cell 0
    have a1 := hr.acc.cell 1
    have r0 := hr.res.cell 0
    have r1 := hr.res.cell 1
    have rf := fun k => hr.res.frozen k
    have af := fun k => hr.acc.frozen k
    have al := hr.acc.lt
    have s5 := hr.st.cell 5
    simp only [List.getElem?_cons_zero, List.getElem?_cons_succ] at a0 a1 r0 r1 s5
    cases rest with
    | nil =>
      have hlen := hr.len
      have hk : k = 2 := by have := HR.out.1; simp [Fo.len] at hlen; omega
      subst hk
      have hnm : n = 1 + f.nodes ∧ m = 1 + f.levels := by
        have h1 := hr.nodes
        have h2 := hr.levels
        have h3 := hr.pos
        simp [Fo.nodes, Fo.levels] at h1 h2
        omega
      have HN := Lib.hid hnm
      clear hnm hlen hg
      go_wp2_with fail
      go_loopg [35] 1 (fun g v35 w2 => v35 = .int .i64 0 ∧ w2 = wr)
      case atStart => exact ⟨rfl, rfl⟩
      case round =>
        obtain ⟨rfl, rfl⟩ := hrel
        go_wp2
        refine bodyPost_ret (results_sz rfl _ (hr.res.set2 _ _) rfl) rfl ⟨by rw [HN.out.1, HN.out.2], ?_⟩
        have g := hr.g
        exact (by repeat (first | (with_reducible exact gb_refl _ _) | (with_reducible assumption) | (with_reducible exact gb_none (by assumption)) | (with_reducible refine gb_alloc ?_ _) | (with_reducible refine gb_drew ?_) | (with_reducible refine gb_drewN ?_ _) | ((with_reducible refine gb_set ?_ _ _ ?h2); case h2 => first | exact .inl rfl | exact .inr (Nat.le_refl _) | exact .inr (by simp <;> omega)) | (with_reducible refine gb_sub ?_ (by assumption)) | (with_reducible refine gb_trans ?_ (by assumption))))
    | cons h' kids next =>
      simp only [Fo.len] at hg
      subst hg
      have hlen := hr.len
      simp only [Fo.len] at hlen
      have hkI : decide (k < f.len) = true := by simp; omega
      have hf2 := HR.out.1
      have hfn := HR.out.2.1
      have hkI2 : decide (k < 2) = true := by simp; omega
      obtain ⟨pv', lv', kcs, rcs, hcs, hp, hl, hkids, hnext⟩ := hr.row
      obtain ⟨pa', pc', rfl, _⟩ := hp
      have hL : RepL (fun q => q < w.heap.size) w1 lv' kids := ⟨kcs, hl, hkids⟩
      obtain ⟨la2, lc2, rfl, _⟩ := hl
      have hat : ∀ i u, (hdC h' (.slice pa' h'.p.length pc') (.slice la2 kids.len lc2))[i]? = some u → wr.cell? ⟨G, k * 7 + i, none⟩ = some u := by
        intro i u hu
        have : cs[k * 7 + i]? = (cs.drop (k * 7))[i]? := by simp
        refine gb_cell hr.gv (HO.out.1 (k * 7 + i) u ?_) (by simp; omega)
        rw [this, hcs, List.getElem?_append_left (by have := (List.getElem?_eq_some_iff.1 hu).1; exact this)]
        exact hu
      have z0 := hat 0 _ rfl
      have z1 := hat 1 _ rfl
      have z2 := hat 2 _ rfl
      have z3 := hat 3 _ rfl
      have z4 := hat 4 _ rfl
      have z5 := hat 5 _ rfl
      have z6 := hat 6 _ rfl
      simp only [Nat.add_zero] at z0
      have hgl := World.block_lt_of_cell? wr _ z0
      clear hat
      have hno := hr.nodes
      simp only [Fo.nodes] at hno
      have hmo := hr.levels
      simp only [Fo.levels] at hmo
      have hkl := kids.len_nodes
      have hpo := hr.pos
      have hfll := f.len_nodes
      have HL := Lib.hid (fun (W : World) (gW : wr.grownBy W none) => ofExpr_N (kids.nodes + 1) kids (by omega) (by omega) (fun q => q < w.heap.size) h' pa' h'.p.length pc' la2 lc2 W ((hL.gb hr.gv (by intro q hq _ e; cases e; omega)).gb gW (by simp)))
      have HI := Lib.hid (fun (W : World) => sizeIn_any n m (1 + kids.nodes) (1 + kids.levels) (by omega) (by omega) (by omega) W)
      have HK := Lib.hid hr
      have hkl2 : k + 1 ≤ 2 := by omega
      clear hL hnext hkids hcs hr hno hmo hlen hpo
      have hy := Blk.new wr (hdC h' (.slice pa' h'.p.length pc') (.slice la2 kids.len lc2)) 29
      have hac := HK.out.acc.alloc (.cells (hdC h' (.slice pa' h'.p.length pc') (.slice la2 kids.len lc2)).toArray 29 (0, 0))
      have HY := Lib.hid (And.intro hy hac)
      clear hy hac
      have hws := HK.out.g.size
      go_wp2_with fail
      go_region_with (first
        | (go_at_call 26; refine (HL.out _ ?gg).mono ?_; (case gg => exact (by repeat (first | (with_reducible exact gb_refl _ _) | (with_reducible assumption) | (with_reducible exact gb_none (by assumption)) | (with_reducible refine gb_alloc ?_ _) | (with_reducible refine gb_drew ?_) | (with_reducible refine gb_drewN ?_ _) | ((with_reducible refine gb_set ?_ _ _ ?h2); case h2 => first | exact .inl rfl | exact .inr (Nat.le_refl _) | exact .inr (by simp <;> omega)) | (with_reducible refine gb_sub ?_ (by assumption)) | (with_reducible refine gb_trans ?_ (by assumption))))); rintro e w5 ⟨rfl, g5⟩; (have y5 := (HY.out.1.drewN 1).gb g5 (by simp)); (have ac5 := (HY.out.2.drewN 1).gb g5 (by simp)); (have b0 := y5.cell 0); (have b1 := y5.cell 1); (have b2 := y5.cell 2); (have b3 := y5.cell 3); (have b4 := y5.cell 4); (have b5 := y5.cell 5); (have b6 := y5.cell 6); (have d0 := ac5.cell 0); (have d1 := ac5.cell 1); (have df := fun k => ac5.frozen k); (have dl := ac5.lt); (simp only [hdC, List.getElem?_cons_zero, List.getElem?_cons_succ] at b0 b1 b2 b3 b4 b5 b6 d0 d1))
        | (go_at_call 58; refine (HI.out _).mono ?_; rintro e w6 ⟨rfl, g6⟩; (have ac6 := ac5.gb g6 (by simp)); (have m0 := ac6.cell 0); (have m1 := ac6.cell 1); (have mf := fun k => ac6.frozen k); (have ml := ac6.lt); (simp only [List.getElem?_cons_zero, List.getElem?_cons_succ] at m0 m1)))
      all_goals
        have hre := ((((HK.out.res.alloc (.cells (hdC h' (.slice pa' h'.p.length pc') (.slice la2 kids.len lc2)).toArray 29 (0, 0))).drewN 1).gb g5 (by simp)).gb g6 (by simp))
        have gg := gb_sub (gb_sub (gb_drew (gb_alloc HK.out.g (.cells (hdC h' (.slice pa' h'.p.length pc') (.slice la2 kids.len lc2)).toArray 29 (0, 0)))) g5) g6
        have hst6 := (((HK.out.st.alloc (.cells (hdC h' (.slice pa' h'.p.length pc') (.slice la2 kids.len lc2)).toArray 29 (0, 0))).drewN 1).gb g5 (by simp)).gb g6 (by simp)
        have gv6 := gb_sub (gb_sub (gb_drew (gb_alloc HK.out.gv (.cells (hdC h' (.slice pa' h'.p.length pc') (.slice la2 kids.len lc2)).toArray 29 (0, 0)))) g5) g6
        have HX := Lib.hid (And.intro ac6 (And.intro hre (And.intro gg (And.intro hst6 gv6))))
        clear hre gg hst6 gv6
        go_wp2
        go_roundg next.len
        case measure => omega
        case rel =>
          refine ⟨next, k + 1, n + (1 + kids.nodes), max m (1 + kids.levels + 1), rfl, by simp, HK.out.next ((HX.out.2.2.2.1.set_other _ _ (by simp <;> omega)).set_other _ _ (by simp <;> omega)) ((HX.out.1.set2 _ _).of_eq (by omega) (by push_cast; rfl)) ((HX.out.2.1.set_other _ _ (by simp)).set_other _ _ (by simp)) (gb_set (gb_set HX.out.2.2.1 _ _ (.inr (by simp; omega))) _ _ (.inr (by simp; omega))) (gb_set (gb_set HX.out.2.2.2.2 _ _ (.inl rfl)) _ _ (.inl rfl))⟩

end Go.Proofs.YtmcajbhljbbglaaGreatDoor
