/-
  The reference's lexer: its reader in memory; fails, end, first, run, isComment.
  The reference's lexer: run, goesOn, skips.
  The reference's lexer: put, ends.
-/
import Derived.Test.YtmcajbhljbbglaaGreatDoorSr01
import Derived.Deep.AppendLies
import Derived.Deep.RegionLaw
set_option linter.all false
set_option linter.unusedVariables false
set_option linter.unusedSimpArgs false
set_option linter.unnecessarySimpa false
set_option linter.constructorNameAsVariable false
set_option linter.deprecated false

namespace Go.Proofs.YtmcajbhljbbglaaGreatDoor
open Go.RowKit

/-- the reader in block b: the source, the place, whether a token stands in the line, the first place that is wrong, and the tokens so far -/
structure Rl (w : World) (b : Nat) (s : Bs) (i : Nat) (line : Bool) (wrong : Int) (ov : Value) (pre : List Tok) : Prop where
  blk : Blk w b [str s, .int .i64 i, .bool line, .int .i64 wrong, ov] 122
  row : w.ownsRow (b + 1) 89 3 ov pre.length (tokCells pre)
  le : i ≤ s.length
  few : s.length ≤ 4000
section
variable {w w1 : World} {b : Nat} {s : Bs} {i : Nat} {line : Bool} {wrong : Int} {ov : Value} {pre : List Tok}
theorem Rl.lt (h : Rl w b s i line wrong ov pre) : b < w.heap.size := h.blk.lt
theorem Rl.c0 (h : Rl w b s i line wrong ov pre) : w.cell? ⟨b, 0, none⟩ = some (str s) := h.blk.cell 0
theorem Rl.c1 (h : Rl w b s i line wrong ov pre) : w.cell? ⟨b, 1, none⟩ = some (.int .i64 i) := h.blk.cell 1
theorem Rl.c2 (h : Rl w b s i line wrong ov pre) : w.cell? ⟨b, 2, none⟩ = some (.bool line) := h.blk.cell 2
theorem Rl.c3 (h : Rl w b s i line wrong ov pre) : w.cell? ⟨b, 3, none⟩ = some (.int .i64 wrong) := h.blk.cell 3
theorem Rl.c4 (h : Rl w b s i line wrong ov pre) : w.cell? ⟨b, 4, none⟩ = some ov := h.blk.cell 4
theorem Rl.fr (h : Rl w b s i line wrong ov pre) (k : Nat) : w.frozen? ⟨b, k, none⟩ = false := h.blk.frozen k
theorem Rl.gbN (h : Rl w b s i line wrong ov pre) (g : w.grownBy w1 none) : Rl w1 b s i line wrong ov pre := ⟨h.blk.gb g (by simp), ownsRow_gb h.row g (by simp), h.le, h.few⟩
theorem Rl.alloc (h : Rl w b s i line wrong ov pre) (o : Obj) : Rl (w.alloc o) b s i line wrong ov pre := h.gbN (World.grownBy_alloc w o none)
theorem Rl.drewN (h : Rl w b s i line wrong ov pre) (n : Nat) : Rl (w.drewN n) b s i line wrong ov pre := h.gbN (gb_drewN (gb_refl w none) n)
theorem Rl.rowSet (h : Rl w b s i line wrong ov pre) (k : Nat) (v : Value) : (w.setCell ⟨b, k, none⟩ v).ownsRow (b + 1) 89 3 ov pre.length (tokCells pre) :=
  ownsRow_gb h.row (gb_set1 (gb_refl w (some b)) k v) (by intro q hq _ e; cases e; omega)
theorem Rl.go (h : Rl w b s i line wrong ov pre) (z : Int) (j : Nat) (hz : z = j) (hj : j ≤ s.length) : Rl (w.setCell ⟨b, 1, none⟩ (.int .i64 z)) b s j line wrong ov pre := by
  subst hz; exact ⟨(h.blk.set 1 _).of_eq rfl rfl, h.rowSet _ _, hj, h.few⟩
theorem Rl.setLine (h : Rl w b s i line wrong ov pre) (l : Bool) : Rl (w.setCell ⟨b, 2, none⟩ (.bool l)) b s i l wrong ov pre := ⟨(h.blk.set 2 _).of_eq rfl rfl, h.rowSet _ _, h.le, h.few⟩
theorem Rl.setWrong (h : Rl w b s i line wrong ov pre) (k : Int) : Rl (w.setCell ⟨b, 3, none⟩ (.int .i64 k)) b s i line k ov pre := ⟨(h.blk.set 3 _).of_eq rfl rfl, h.rowSet _ _, h.le, h.few⟩
theorem Rl.at_eq {j : Nat} (h : Rl w b s i line wrong ov pre) (e : i = j) : Rl w b s j line wrong ov pre := e ▸ h
theorem Rl.wr_eq {k : Int} (h : Rl w b s i line wrong ov pre) (e : wrong = k) : Rl w b s i line k ov pre := e ▸ h
end

section
variable {w : World} {b : Nat} {s : Bs} {i : Nat} {line : Bool} {wrong : Int} {ov : Value} {pre : List Tok}

set_option maxHeartbeats 400000 in
theorem fails_new (h : Rl w b s i line (-1) ov pre) (k : Nat) :
    Calls Tryz.prog 169 #[.pointer (some ⟨b, 0, none⟩), .int .i64 k] w fun e w' => e = .returned (.tuple #[]) ∧ Rl w' b s i line k ov pre ∧ w.grownBy w' (some b) := by
  have c3 := h.c3
  have f3 := h.fr 3
  go_enter Tryz.func169, Tryz.ntmps169
  go_wp2
  go_end0
  exact ⟨rfl, h.setWrong _, gb_set (gb_refl _ _) _ _ (.inl rfl)⟩

set_option maxHeartbeats 400000 in
theorem fails_old {q : Nat} (h : Rl w b s i line q ov pre) (k : Nat) (hk : q ≤ k) :
    Calls Tryz.prog 169 #[.pointer (some ⟨b, 0, none⟩), .int .i64 k] w fun e w' => e = .returned (.tuple #[]) ∧ Rl w' b s i line q ov pre ∧ w.grownBy w' (some b) := by
  have c3 := h.c3
  have hq1 : decide ((k : Int) < q) = false := by simp; omega
  go_enter Tryz.func169, Tryz.ntmps169
  go_wp2
  go_end0
  exact ⟨rfl, h, gb_refl _ _⟩

set_option maxHeartbeats 400000 in
theorem rEnd_any (h : Rl w b s i line wrong ov pre) (k : Nat) (hk : k ≤ s.length) :
    Calls Tryz.prog 123 #[.pointer (some ⟨b, 0, none⟩), .int .i64 k] w fun e w' => e = .returned (.int .i64 (lineEndM s k)) ∧ w.grownBy w' none := by
  go_enter Tryz.func123, Tryz.ntmps123
  go_wp2_with fail
  go_loopg [1] (s.length - k) (fun g v1 wr => ∃ j : Nat, j + g = s.length ∧ v1 = .int .i64 j ∧ lineEndM s j = lineEndM s k ∧ w.grownBy wr none)
  case atStart => exact ⟨k, by omega, rfl, rfl, gb_refl _ _⟩
  case round =>
    obtain ⟨j, hj, rfl, hq, g⟩ := hrel
    have hf := h.few
    have c0 := gb_cellN g h.c0
    have HG := Lib.hid g
    have HQ := Lib.hid hq
    clear hq
    cases gk with
    | zero =>
      have hjl : j = s.length := by omega
      have hj1 : decide (j < s.length) = false := by simp; omega
      have HE := Lib.hid (show j = lineEndM s k by rw [← HQ.out, lineEndM, runM_end (by omega)])
      clear g
      go_wp2
      go_ret
      exact ⟨by rw [← HE.out]; rfl, HG.out⟩
    | succ gk =>
      have hj1 : decide (j < s.length) = true := by simp; omega
      have hjl : j < s.length := by omega
      have hg := fun h => ba_at s j h hjl
      cases h10 : ((bAt s j).toNat : Int) != 10 with
      | true =>
        have HN := Lib.hid (show lineEndM s (j + 1) = lineEndM s k by
          rw [← HQ.out]; exact (runM_step hjl (by simp at h10 ⊢; rintro e; rw [e] at h10; simp at h10)).symm)
        clear g
        go_wp2
        go_roundg gk
        case measure => omega
        case rel => exact ⟨j + 1, by omega, by go_num, HN.out, HG.out⟩
      | false =>
        have HN := Lib.hid (show j = lineEndM s k by
          rw [← HQ.out]
          have h2 : bAt s j = 10 := by simp at h10; apply UInt8.toNat_inj.1; simpa using (by omega : (bAt s j).toNat = 10)
          exact (runM_stop hjl (by rw [h2]; rfl)).symm)
        clear g
        go_wp2
        go_ret
        exact ⟨by rw [← HN.out]; rfl, HG.out⟩

set_option maxHeartbeats 400000 in
theorem rFirst_any (h : Rl w b s i line wrong ov pre) :
    Calls Tryz.prog 121 #[.pointer (some ⟨b, 0, none⟩)] w fun e w' => e = .returned (.bool (firstM s i)) ∧ w.grownBy w' none := by
  have c1 := h.c1
  have hf := h.few
  have hle := h.le
  go_enter Tryz.func121, Tryz.ntmps121
  go_wp2_with fail
  go_loopg [3] i (fun g v3 wr => g ≤ i ∧ v3 = .int .i64 ((g : Int) - 1) ∧ firstM s g = firstM s i ∧ w.grownBy wr none)
  case atStart => exact ⟨Nat.le_refl _, rfl, rfl, gb_refl _ _⟩
  case round =>
    obtain ⟨hj, rfl, hq, g⟩ := hrel
    have c0 := gb_cellN g h.c0
    have HG := Lib.hid g
    have HQ := Lib.hid hq
    clear hq
    cases gk with
    | zero =>
      have HE := Lib.hid (show true = firstM s i by rw [← HQ.out]; rfl)
      clear g
      go_wp2
      go_ret
      exact ⟨by rw [← HE.out]; rfl, HG.out⟩
    | succ gk =>
      have hjl : gk < s.length := by omega
      have hg := fun h => ba_at s gk h hjl
      have e0 : ((gk + 1 : Nat) : Int) - 1 = (gk : Int) := by omega
      rw [e0]
      cases hb : cls 3 (bAt s gk) with
      | true =>
        have HN := Lib.hid (show firstM s gk = firstM s i by rw [← HQ.out, firstM_blank hb])
        have HB := Lib.hid hb
        clear g hb
        go_wp2_with fail
        refine (rIsBlank_any _ _).mono ?_
        rintro e w1 ⟨rfl, rfl⟩
        rw [HB.out]
        go_wp2
        go_roundg gk
        case measure => omega
        case rel => exact ⟨by omega, rfl, HN.out, HG.out⟩
      | false =>
        have HN := Lib.hid (show (bAt s gk == 10) = firstM s i by rw [← HQ.out, firstM_other hb])
        have HB := Lib.hid hb
        clear g hb
        go_wp2_with fail
        refine (rIsBlank_any _ _).mono ?_
        rintro e w1 ⟨rfl, rfl⟩
        rw [HB.out]
        go_wp2
        go_ret
        refine ⟨?_, HG.out⟩
        rw [← HN.out, show (bAt s gk == 10) = (((bAt s gk).toNat : Int) == 10) from (u8i (n := 10) (by decide)).symm]
        rfl

set_option maxHeartbeats 400000 in
theorem rIsComment_any (h : Rl w b s i line wrong ov pre) (hi : i < s.length) :
    Calls Tryz.prog 120 #[.pointer (some ⟨b, 0, none⟩)] w fun e w' => e = .returned (.bool (ampAt s i)) ∧ w.grownBy w' none := by
  have c0 := h.c0
  have c1 := h.c1
  have hb := h.lt
  have hf := h.few
  have H := Lib.hid (ampAt_eq s i)
  have hg := fun h => ba_at s i h hi
  by_cases hk : i + 1 < s.length
  · have hk1 : decide ((i : Int) + 1 < s.length) = true := by simp; omega
    have hg2 := fun h => ba_at s (i + 1) h hk
    rw [H.out, show (bAt s i == 38) = (((bAt s i).toNat : Int) == 38) from (u8i (n := 38) (by decide)).symm, show (bAt s (i + 1) == 38) = (((bAt s (i + 1)).toNat : Int) == 38) from (u8i (n := 38) (by decide)).symm]
    clear h H
    cases h38 : ((bAt s i).toNat : Int) == 38 with
    | true =>
      go_enter Tryz.func120, Tryz.ntmps120
      go_wp2
      go_quiet (fail)
      go_wp2
      go_ret
      exact ⟨by simp [hk], (by repeat (first | (with_reducible exact gb_refl _ _) | (with_reducible assumption) | (with_reducible exact gb_none (by assumption)) | (with_reducible refine gb_alloc ?_ _) | (with_reducible refine gb_drew ?_) | (with_reducible refine gb_drewN ?_ _) | ((with_reducible refine gb_set ?_ _ _ ?h2); case h2 => first | exact .inl rfl | exact .inr (Nat.le_refl _) | exact .inr (by simp <;> omega)) | (with_reducible refine gb_sub ?_ (by assumption)) | (with_reducible refine gb_trans ?_ (by assumption))))⟩
    | false =>
      go_enter Tryz.func120, Tryz.ntmps120
      go_wp2
      go_quiet (fail)
      go_wp2
      go_ret
      exact ⟨by simp, (by repeat (first | (with_reducible exact gb_refl _ _) | (with_reducible assumption) | (with_reducible exact gb_none (by assumption)) | (with_reducible refine gb_alloc ?_ _) | (with_reducible refine gb_drew ?_) | (with_reducible refine gb_drewN ?_ _) | ((with_reducible refine gb_set ?_ _ _ ?h2); case h2 => first | exact .inl rfl | exact .inr (Nat.le_refl _) | exact .inr (by simp <;> omega)) | (with_reducible refine gb_sub ?_ (by assumption)) | (with_reducible refine gb_trans ?_ (by assumption))))⟩
  · have hk1 : decide ((i : Int) + 1 < s.length) = false := by simp; omega
    rw [H.out]
    clear h H
    go_enter Tryz.func120, Tryz.ntmps120
    go_wp2
    go_quiet (fail)
    go_wp2
    go_ret
    refine ⟨?_, (by repeat (first | (with_reducible exact gb_refl _ _) | (with_reducible assumption) | (with_reducible exact gb_none (by assumption)) | (with_reducible refine gb_alloc ?_ _) | (with_reducible refine gb_drew ?_) | (with_reducible refine gb_drewN ?_ _) | ((with_reducible refine gb_set ?_ _ _ ?h2); case h2 => first | exact .inl rfl | exact .inr (Nat.le_refl _) | exact .inr (by simp <;> omega)) | (with_reducible refine gb_sub ?_ (by assumption)) | (with_reducible refine gb_trans ?_ (by assumption))))⟩
    simp [hk]
end

end Go.Proofs.YtmcajbhljbbglaaGreatDoor

namespace Go.Proofs.YtmcajbhljbbglaaGreatDoor
open Go.RowKit

section
variable {w : World} {b : Nat} {s : Bs} {i : Nat} {line : Bool} {wrong : Int} {ov : Value} {pre : List Tok}

set_option maxRecDepth 20000 in
set_option maxHeartbeats 800000 in
theorem rRun_any (h : Rl w b s i line wrong ov pre) (word : Bool) (p : UInt8 → Bool) (hp : ∀ x, p x = (cls 2 x || (word && cls 1 x))) :
    Calls Tryz.prog 171 #[.pointer (some ⟨b, 0, none⟩), .bool word] w fun e w' => e = .returned (.int .i64 ((runM s p i - i : Nat) : Int)) ∧ w.grownBy w' none := by
  have hle := h.le
  have hb := h.lt
  go_enter Tryz.func171, Tryz.ntmps171
  go_wp2_with fail
  go_loopg [5, 6] (s.length - i) (fun g v5 v6 wr => ∃ k : Nat, i + k + g = s.length ∧ v5 = .int .i64 k ∧ runM s p (i + k) = runM s p i ∧ w.grownBy wr none)
  case atStart => exact ⟨0, by omega, rfl, rfl, gb_refl _ _⟩
  case round =>
    obtain ⟨k, hj, rfl, hq, g⟩ := hrel
    have hf := h.few
    have c0 := gb_cellN g h.c0
    have c1 := gb_cellN g h.c1
    have hbl := (h.gbN g).lt
    have HG := Lib.hid g
    have HQ := Lib.hid hq
    clear hq g
    cases gk with
    | zero =>
      have hj1 : decide ((i : Int) + k < s.length) = false := by simp; omega
      have HE := Lib.hid (show (k : Int) = ((runM s p i - i : Nat) : Int) by rw [← HQ.out, runM_end (by omega)]; simp)
      go_wp2
      go_quiet (fail)
      go_wp2
      go_ret
      exact ⟨by rw [← HE.out]; rfl, gb_drewN HG.out _⟩
    | succ gk =>
      have hj1 : decide ((i : Int) + k < s.length) = true := by simp; omega
      have hjl : i + k < s.length := by omega
      have hj2 : (0 : Int) ≤ (i : Int) + k := by omega
      have hj3 : (i : Int) + k < (s.length : Int) := by omega
      have hg := fun h => ba_at s (i + k) h hjl
      have hX := hp (bAt s (i + k))
      have HX := Lib.hid hX
      clear hX
      cases hpx : p (bAt s (i + k)) with
      | true =>
        have HN := Lib.hid (show runM s p (i + (k + 1)) = runM s p i by rw [← HQ.out]; exact (runM_step hjl hpx).symm)
        have HX2 := Lib.hid (hpx ▸ HX.out)
        clear hpx
        generalize hxx : bAt s (i + k) = x at *
        clear hxx
        cases hc : cls 2 x with
        | true =>
          have HC := Lib.hid hc
          clear hc
          go_wp2
          go_quiet (fail)
          go_wp2
          go_quiet (fail)
          go_wp2_with fail
          refine (rIsDigit_any _ _).mono ?_
          rintro e w1 ⟨rfl, rfl⟩
          rw [HC.out]
          go_wp2
          go_roundg gk
          case measure => omega
          case rel => exact ⟨k + 1, by omega, by go_num, HN.out, gb_drewN HG.out _⟩
        | false =>
          have hw : word = true ∧ cls 1 x = true := by have := HX2.out; rw [hc] at this; simpa using this.symm
          obtain ⟨rfl, hc1⟩ := hw
          have HC := Lib.hid (And.intro hc hc1)
          clear hc hc1
          go_wp2
          go_quiet (fail)
          go_wp2
          go_quiet (fail)
          go_wp2_with fail
          refine (rIsDigit_any _ _).mono ?_
          rintro e w1 ⟨rfl, rfl⟩
          rw [HC.out.1]
          go_wp2_with fail
          refine (rIsLetter_any _ _).mono ?_
          rintro e w1 ⟨rfl, rfl⟩
          rw [HC.out.2]
          go_wp2
          go_roundg gk
          case measure => omega
          case rel => exact ⟨k + 1, by omega, by go_num, HN.out, gb_drewN HG.out _⟩
      | false =>
        have HE := Lib.hid (show (k : Int) = ((runM s p i - i : Nat) : Int) by rw [← HQ.out, runM_stop hjl hpx]; simp)
        have hx2 := hpx ▸ HX.out
        clear hpx
        generalize hxx : bAt s (i + k) = x at *
        clear hxx
        have hc : cls 2 x = false := by cases h : cls 2 x with | false => rfl | true => rw [h] at hx2; simp at hx2
        rw [hc] at hx2
        have HC := Lib.hid hc
        clear hc
        cases word with
        | false =>
          clear hx2
          go_wp2
          go_quiet (fail)
          go_wp2
          go_quiet (fail)
          go_wp2_with fail
          refine (rIsDigit_any _ _).mono ?_
          rintro e w1 ⟨rfl, rfl⟩
          rw [HC.out]
          go_wp2
          go_ret
          exact ⟨by rw [← HE.out]; rfl, gb_drewN HG.out _⟩
        | true =>
          have HL := Lib.hid (show cls 1 x = false by simpa using hx2.symm)
          clear hx2
          go_wp2
          go_quiet (fail)
          go_wp2
          go_quiet (fail)
          go_wp2_with fail
          refine (rIsDigit_any _ _).mono ?_
          rintro e w1 ⟨rfl, rfl⟩
          rw [HC.out]
          go_wp2_with fail
          refine (rIsLetter_any _ _).mono ?_
          rintro e w1 ⟨rfl, rfl⟩
          rw [HL.out]
          go_wp2
          go_ret
          exact ⟨by rw [← HE.out]; rfl, gb_drewN HG.out _⟩

theorem amp_take (s : Bs) (k : Nat) : ((s.drop k).take 2 == [38, 38]) = ampAt s k := by
  unfold ampAt
  generalize s.drop k = t
  match t with
  | [] => rfl
  | [a] => simp [List.isPrefixOf]
  | a :: c :: t =>
    have e1 : (a == 38) = (38 == a) := Bool.beq_comm
    have e2 : (c == 38) = (38 == c) := Bool.beq_comm
    show ((a == 38) && ((c == 38) && true)) = ((38 == a) && ((38 == c) && true))
    rw [e1, e2]
theorem ba_two (s : Bs) (k : Nat) : (⟨s.toArray⟩ : ByteArray).extract k (k + 2) = ⟨((s.drop k).take 2).toArray⟩ := by rw [ba_extract, show k + 2 - k = 2 by omega]

set_option maxRecDepth 20000 in
set_option maxHeartbeats 800000 in
theorem rGoesOn_any (h : Rl w b s i line wrong ov pre) (hi : i < s.length) :
    Calls Tryz.prog 124 #[.pointer (some ⟨b, 0, none⟩)] w fun e w' => e = .returned (.bool (goesOn s (skipM s (i + 1)))) ∧ w.grownBy w' none := by
  have hf := h.few
  have c1 := h.c1
  go_enter Tryz.func124, Tryz.ntmps124
  go_wp2_with fail
  go_loopg [3] (s.length - (i + 1)) (fun g v3 wr => ∃ k : Nat, k + g = s.length ∧ v3 = .int .i64 k ∧ skipM s k = skipM s (i + 1) ∧ w.grownBy wr none)
  case atStart => exact ⟨i + 1, by omega, by go_num, rfl, gb_refl _ _⟩
  case round =>
    obtain ⟨k, hj, rfl, hq, g⟩ := hrel
    have c0 := gb_cellN g h.c0
    have HG := Lib.hid g
    have HQ := Lib.hid hq
    clear hq g c1
    cases gk with
    | zero =>
      have hj1 : decide ((k : Int) < s.length) = false := by simp; omega
      have hj2 : decide ((s.length : Int) ≤ k) = true := by simp; omega
      have HE := Lib.hid (show goesOn s (skipM s (i + 1)) = true by rw [← HQ.out]; unfold skipM; rw [runM_end (by omega)]; simp [goesOn]; left; omega)
      go_wp2
      go_ret
      exact ⟨by rw [HE.out]; rfl, HG.out⟩
    | succ gk =>
      have hjl : k < s.length := by omega
      have hj1 : decide ((k : Int) < s.length) = true := by simp; omega
      have hj2 : decide (s.length ≤ k) = false := by simp; omega
      have hg := fun h => ba_at s k h hjl
      cases hb : cls 3 (bAt s k) with
      | true =>
        have HN := Lib.hid (show skipM s (k + 1) = skipM s (i + 1) by rw [← HQ.out]; exact (runM_step hjl hb).symm)
        have HB := Lib.hid hb
        clear hb
        go_wp2_with fail
        refine (rIsBlank_any _ _).mono ?_
        rintro e w1 ⟨rfl, rfl⟩
        rw [HB.out]
        go_wp2
        go_roundg gk
        case measure => omega
        case rel => exact ⟨k + 1, by omega, by go_num, HN.out, HG.out⟩
      | false =>
        have HE := Lib.hid (show goesOn s (skipM s (i + 1)) = (bAt s k == 10 || ampAt s k) by
          rw [← HQ.out]; unfold skipM; rw [runM_stop hjl hb]; unfold goesOn; rw [show decide (s.length ≤ k) = false by simp; omega]; rfl)
        have HB := Lib.hid hb
        clear hb
        cases h10 : ((bAt s k).toNat : Int) == 10 with
        | true =>
          have HT := Lib.hid (show (bAt s k == 10) = true by rw [← h10]; exact (u8i (n := 10) (by decide)).symm)
          go_wp2_with fail
          refine (rIsBlank_any _ _).mono ?_
          rintro e w1 ⟨rfl, rfl⟩
          rw [HB.out]
          go_wp2
          go_ret
          exact ⟨by rw [HE.out, HT.out]; rfl, HG.out⟩
        | false =>
          have HT := Lib.hid (show (bAt s k == 10) = false by rw [← h10]; exact (u8i (n := 10) (by decide)).symm)
          by_cases h2 : k + 1 < s.length
          · have hk2 : decide ((k : Int) + 1 < s.length) = true := by simp; omega
            have HX := Lib.hid (amp_take s k)
            have hx := ba_two s k
            generalize (s.drop k).take 2 = two at *
            go_wp2_with fail
            refine (rIsBlank_any _ _).mono ?_
            rintro e w1 ⟨rfl, rfl⟩
            rw [HB.out]
            go_wp2
            go_ret
            refine ⟨?_, HG.out⟩
            rw [HE.out, HT.out, ← HX.out]
            simp
          · have hk2 : decide ((k : Int) + 1 < s.length) = false := by simp; omega
            have HX := Lib.hid (show ampAt s k = false by rw [ampAt_eq]; simp [h2])
            go_wp2_with fail
            refine (rIsBlank_any _ _).mono ?_
            rintro e w1 ⟨rfl, rfl⟩
            rw [HB.out]
            go_wp2
            go_ret
            exact ⟨by rw [HE.out, HT.out, HX.out]; simp, HG.out⟩

def wrongOf (s : Bs) (i : Nat) (k : Nat) : Int := if cleanM s i < k then cleanM s i else -1
theorem wrongOf_end (s : Bs) (i : Nat) : wrongOf s i (lineEndM s i) = match commentM s i with
    | some k => (k : Int)
    | none => -1 := by
  unfold wrongOf commentM
  by_cases h : cleanM s i < lineEndM s i
  · rw [if_pos h, if_pos h]
  · rw [if_neg h, if_neg h]

set_option maxRecDepth 20000 in
set_option maxHeartbeats 800000 in
theorem rSkips_any (h : Rl w b s i line (-1) ov pre) :
    Calls Tryz.prog 122 #[.pointer (some ⟨b, 0, none⟩), .int .i64 (lineEndM s i)] w fun e w' => e = .returned (.tuple #[]) ∧ Rl w' b s (lineEndM s i) line (wrongOf s i (lineEndM s i)) ov pre ∧ w.grownBy w' (some b) := by
  have hf := h.few
  have hle : lineEndM s i ≤ s.length := runM_le h.le
  have hge : i ≤ lineEndM s i := runM_ge _ _ _
  have h0 : wrongOf s i i = -1 := by
    have := runM_ge s (fun b => b != 10 && !cls 4 b) i
    unfold wrongOf cleanM
    rw [if_neg (by omega)]
  go_enter Tryz.func122, Tryz.ntmps122
  go_wp2_with fail
  go_loopg [] (lineEndM s i - i) (fun g wr => ∃ k : Nat, k + g = lineEndM s i ∧ i ≤ k ∧ Rl wr b s k line (wrongOf s i k) ov pre ∧ w.grownBy wr (some b))
  case atStart => exact ⟨i, by omega, Nat.le_refl _, h.wr_eq h0.symm, gb_refl _ _⟩
  case round =>
    obtain ⟨k, hk, hik, hs, g⟩ := hrel
    clear h h0
    have hb := hs.lt
    have c1 := hs.c1
    have c0 := hs.c0
    cases gk with
    | zero =>
      have hkI2 : decide (k < lineEndM s i) = false := by simp; omega
      have hs' := hs.at_eq (show k = lineEndM s i by omega)
      have HS := Lib.hid (show Rl wr b s (lineEndM s i) line (wrongOf s i (lineEndM s i)) ov pre from hs'.wr_eq (by rw [show k = lineEndM s i by omega]))
      have HG := Lib.hid g
      clear hs hs' g
      go_wp2
      go_end0
      exact ⟨rfl, HS.out, HG.out⟩
    | succ gk =>
      have hlt : k < lineEndM s i := by omega
      have hkl : k < s.length := by omega
      have hltI : decide ((k : Int) < lineEndM s i) = true := by simp; omega
      have hg := fun h => ba_at s k h hkl
      have h10 : bAt s k ≠ 10 := by have := (runM_all hik hlt).2; simpa using this
      cases hc : cls 4 (bAt s k) with
      | false =>
        have HN := Lib.hid (show wrongOf s i k = wrongOf s i (k + 1) by
          unfold wrongOf
          by_cases h2 : cleanM s i < k
          · rw [if_pos h2, if_pos (by omega)]
          · rw [if_neg h2, if_neg]
            intro h3
            have e : cleanM s i = k := by omega
            have := runM_at (s := s) (p := fun b => b != 10 && !cls 4 b) (i := i) (by unfold cleanM at e; omega)
            change ((bAt s (cleanM s i) != 10) && !cls 4 (bAt s (cleanM s i))) = false at this
            rw [e, hc] at this
            simp [h10] at this)
        have HC := Lib.hid hc
        have HG := Lib.hid g
        clear hc h10
        go_wp2_with fail
        go_quiet ((go_at_call 168; refine (rIsByte_any _ _).mono ?_; rintro e w9 ⟨rfl, rfl⟩; exact ⟨rfl, _, rfl⟩))
        rw [HC.out]
        have hs1 := hs.drewN nq
        have c1 := hs1.c1
        have f1 := hs1.fr 1
        go_wp2
        go_roundg gk
        case measure => omega
        case rel => exact ⟨k + 1, by omega, by omega, (hs1.go _ (k + 1) (by omega) (by omega)).wr_eq HN.out, gb_set (gb_drewN HG.out _) _ _ (.inl rfl)⟩
      | true =>
        have hcl : cleanM s i ≤ k := by
          by_cases h2 : k < cleanM s i
          · have := (runM_all (p := fun b => b != 10 && !cls 4 b) hik h2).2
            simp [hc] at this
          · omega
        have HC := Lib.hid hc
        have HG := Lib.hid g
        clear hc h10
        go_wp2_with fail
        go_quiet ((go_at_call 168; refine (rIsByte_any _ _).mono ?_; rintro e w9 ⟨rfl, rfl⟩; exact ⟨rfl, _, rfl⟩))
        rw [HC.out]
        have hs1 := hs.drewN nq
        by_cases h2 : cleanM s i < k
        · have e1 : wrongOf s i k = (cleanM s i : Nat) := by unfold wrongOf; rw [if_pos h2]
          have e2 : wrongOf s i (k + 1) = (cleanM s i : Nat) := by unfold wrongOf; rw [if_pos (by omega)]
          rw [e1] at hs1
          have c1 := hs1.c1
          go_wp2_with fail
          refine (fails_old hs1 k (by omega)).mono ?_
          rintro e w2 ⟨rfl, hs2, g2⟩
          have c1 := hs2.c1
          have f1 := hs2.fr 1
          go_wp2
          go_roundg gk
          case measure => omega
          case rel => exact ⟨k + 1, by omega, by omega, (hs2.go _ (k + 1) (by omega) (by omega)).wr_eq e2.symm, gb_set (gb_trans (gb_drewN HG.out _) g2) _ _ (.inl rfl)⟩
        · have e1 : wrongOf s i k = -1 := by unfold wrongOf; rw [if_neg h2]
          have e2 : wrongOf s i (k + 1) = (k : Nat) := by
            have : cleanM s i = k := by omega
            unfold wrongOf; rw [if_pos (by omega), this]
          rw [e1] at hs1
          have c1 := hs1.c1
          go_wp2_with fail
          refine (fails_new hs1 k).mono ?_
          rintro e w2 ⟨rfl, hs2, g2⟩
          have c1 := hs2.c1
          have f1 := hs2.fr 1
          go_wp2
          go_roundg gk
          case measure => omega
          case rel => exact ⟨k + 1, by omega, by omega, (hs2.go _ (k + 1) (by omega) (by omega)).wr_eq e2.symm, gb_set (gb_trans (gb_drewN HG.out _) g2) _ _ (.inl rfl)⟩
end

end Go.Proofs.YtmcajbhljbbglaaGreatDoor

namespace Go.Proofs.YtmcajbhljbbglaaGreatDoor
open Go.RowKit

theorem below_some {w w1 : World} {b : Nat} (g : w.grownBy w1 (some b)) (hb : b ≤ w.heap.size) : Below b w w1 := ⟨g.os, g.tape, g.output, g.size, fun k hk => g.block k (by omega) (by simp; omega)⟩
theorem below_none {w w1 : World} {b : Nat} (g : w.grownBy w1 none) (hb : b ≤ w.heap.size) : Below b w w1 := ⟨g.os, g.tape, g.output, g.size, fun k hk => g.block k (by omega) (by simp)⟩

section
variable {w : World} {b : Nat} {s : Bs} {i : Nat} {line : Bool} {wrong : Int} {ov : Value} {pre : List Tok}

/-- a token was appended, and the row's place noted -/
theorem Rl.append {w1 : World} {t : Tok} {g cap : Nat} (h : Rl w b s i line wrong ov pre) (hO : w1.ownsRow (b + 1) 89 3 (.slice (some ⟨g, 0, none⟩) (pre.length + 1) cap) (pre.length + 1) (tokCells pre ++ tokC t))
    (hG : w.grownBy w1 ov.ownBlock) : Rl (w1.setCell ⟨b, 4, none⟩ (.slice (some ⟨g, 0, none⟩) (pre.length + 1) cap)) b s i line wrong (.slice (some ⟨g, 0, none⟩) (pre.length + 1) cap) (pre ++ [t]) ∧
      Below b w (w1.setCell ⟨b, 4, none⟩ (.slice (some ⟨g, 0, none⟩) (pre.length + 1) cap)) := by
  have hne : ∀ k, k < b + 1 → some k ≠ ov.ownBlock := fun k hk e => by have := (h.row.lt _ e.symm).1; omega
  have hb := h.blk.gb hG (hne b (by omega))
  refine ⟨⟨(hb.set 4 _).of_eq rfl rfl, ?_, h.le, h.few⟩, ⟨hG.os, hG.tape, hG.output, by have := hG.size; simpa using this, fun k hk => ?_⟩⟩
  · rw [tokCells_snoc, List.length_append]
    exact ownsRow_gb hO (gb_set1 (gb_refl w1 (some b)) 4 _) (by intro q hq _ e; cases e; omega)
  · exact (Below.heap_setCell _ _ _ _ (by simp; omega)).trans (hG.block k (by have := h.lt; omega) (hne k (by omega)))

/-- what stands behind 'put' -/
def PutPost (w : World) (b : Nat) (s : Bs) (j : Nat) (l : Bool) (wrong : Int) (pre : List Tok) (e : Ending) (w' : World) : Prop :=
  e = .returned (.tuple #[]) ∧ Below b w w' ∧ ∃ ov', Rl w' b s j l wrong ov' pre

set_option maxRecDepth 20000 in
set_option maxHeartbeats 1600000 in
theorem put_any (h : Rl w b s i line wrong ov pre) (k : Int) (t : Bs) (n : Nat) (hn : i + n ≤ s.length) (hc : pre.length ≤ 100000) :
    Calls Tryz.prog 172 #[.pointer (some ⟨b, 0, none⟩), .int .i64 k, str t, .int .i64 n] w (PutPost w b s (i + n) true wrong (pre ++ [⟨k, i, t⟩])) := by
  have hb := h.lt
  have hf := h.few
  obtain ⟨i0, hi, hz0, hz1, hz2⟩ := info_parts info_tok
  have HI := Lib.hid (And.intro hi (And.intro hz0 (And.intro hz1 hz2)))
  have c1 := h.c1
  have c4 := h.c4
  have HH := Lib.hid h
  clear hi hz0 hz1 hz2 h
  go_enter Tryz.func172, Tryz.ntmps172
  go_wp2_with fail
  go_region_law ((refine step_append_lies _ (by rfl) _ _ 51 (by rfl) (b + 1) 89 i0 _ 3 32 Tryz.underlying51 HI.out.1 HI.out.2.1 HI.out.2.2.1 HI.out.2.2.2 rfl (by decide) ov pre.length (tokCells pre) (by rfl) ((HH.out.drewN 1).alloc _).row ⟨w.heap.size, 0, none⟩ 1 1 (tokC ⟨k, i, t⟩) (by rfl) rfl (World.news_of_block (heap_alloc_new _ _)) (by simp [tokC, Value.oneCell']) (by decide) (by unfold maxLen; omega) (by omega) (by simp; omega) _ rfl ?_; intro g cap w1 hown hgrow hat hlt; (have hX := ((HH.out.drewN 1).alloc _).append hown hgrow); (have HX := Lib.hid hX); (have hb1 := (((HH.out.drewN 1).alloc _).blk).gb hgrow (fun e => by have := (HH.out.row.lt _ e.symm).1; omega)); (have f4 := hb1.frozen 4); (have d4 := hb1.cell 4); clear hown hgrow hX))
  all_goals
    obtain ⟨hR, hB⟩ := HX.out
    generalize hov : Value.slice (some ⟨g, 0, none⟩) (pre.length + 1) cap = ov' at *
    generalize hW : w1.setCell ⟨b, 4, none⟩ ov' = W at *
    have e1 := hR.c1
    have fr := fun k => hR.fr k
    have e2 := hR.c2
    have HR := Lib.hid (And.intro hR hB)
    clear hR hB HX
    go_wp2
    go_end0
    refine ⟨rfl, ((below_none ?_ (by omega)).trans HR.out.2).trans (below_some (gb_set (gb_set (gb_refl _ _) _ _ (.inl rfl)) _ _ (.inl rfl)) (by have := HR.out.1.lt; omega)), _, (HR.out.1.go _ (i + n) (by omega) hn).setLine true⟩
    exact (by repeat (first | (with_reducible exact gb_refl _ _) | (with_reducible assumption) | (with_reducible exact gb_none (by assumption)) | (with_reducible refine gb_alloc ?_ _) | (with_reducible refine gb_drew ?_) | (with_reducible refine gb_drewN ?_ _) | ((with_reducible refine gb_set ?_ _ _ ?h2); case h2 => first | exact .inl rfl | exact .inr (Nat.le_refl _) | exact .inr (by simp <;> omega)) | (with_reducible refine gb_sub ?_ (by assumption)) | (with_reducible refine gb_trans ?_ (by assumption))))

set_option maxRecDepth 20000 in
set_option maxHeartbeats 1600000 in
theorem ends_any (h : Rl w b s i line wrong ov pre) (hc : pre.length ≤ 100000) :
    Calls Tryz.prog 92 #[.pointer (some ⟨b, 0, none⟩)] w (PutPost w b s i false wrong (if line then pre ++ [⟨5, i, []⟩] else pre)) := by
  have hb := h.lt
  have hf := h.few
  cases line with
  | false =>
    have c2 := h.c2
    have f2 := h.fr 2
    have HH := Lib.hid h
    clear h
    go_enter Tryz.func92, Tryz.ntmps92
    go_wp2
    go_end0
    exact ⟨rfl, below_some (gb_set (gb_refl _ _) _ _ (.inl rfl)) (by omega), _, HH.out.setLine false⟩
  | true =>
    obtain ⟨i0, hi, hz0, hz1, hz2⟩ := info_parts info_tok
    have HI := Lib.hid (And.intro hi (And.intro hz0 (And.intro hz1 hz2)))
    have c1 := h.c1
    have c2 := h.c2
    have c4 := h.c4
    have HH := Lib.hid h
    clear hi hz0 hz1 hz2 h
    go_enter Tryz.func92, Tryz.ntmps92
    go_wp2_with fail
    go_region_law ((refine step_append_lies _ (by rfl) _ _ 51 (by rfl) (b + 1) 89 i0 _ 3 32 Tryz.underlying51 HI.out.1 HI.out.2.1 HI.out.2.2.1 HI.out.2.2.2 rfl (by decide) ov pre.length (tokCells pre) (by rfl) ((HH.out.drewN 1).alloc _).row ⟨w.heap.size, 0, none⟩ 1 1 (tokC ⟨5, i, []⟩) (by rfl) rfl (World.news_of_block (heap_alloc_new _ _)) (by simp [tokC, Value.oneCell']) (by decide) (by unfold maxLen; omega) (by omega) (by simp; omega) _ rfl ?_; intro g cap w1 hown hgrow hat hlt; (have hX := ((HH.out.drewN 1).alloc _).append hown hgrow); (have HX := Lib.hid hX); (have hb1 := (((HH.out.drewN 1).alloc _).blk).gb hgrow (fun e => by have := (HH.out.row.lt _ e.symm).1; omega)); (have f4 := hb1.frozen 4); (have d4 := hb1.cell 4); clear hown hgrow hX))
    all_goals
      obtain ⟨hR, hB⟩ := HX.out
      generalize hov : Value.slice (some ⟨g, 0, none⟩) (pre.length + 1) cap = ov' at *
      generalize hW : w1.setCell ⟨b, 4, none⟩ ov' = W at *
      have e2 := hR.c2
      have fr := fun k => hR.fr k
      have HR := Lib.hid (And.intro hR hB)
      clear hR hB HX
      go_wp2
      go_end0
      refine ⟨rfl, ((below_none ?_ (by omega)).trans HR.out.2).trans (below_some (gb_set (gb_refl _ _) _ _ (.inl rfl)) (by have := HR.out.1.lt; omega)), _, HR.out.1.setLine false⟩
      exact (by repeat (first | (with_reducible exact gb_refl _ _) | (with_reducible assumption) | (with_reducible exact gb_none (by assumption)) | (with_reducible refine gb_alloc ?_ _) | (with_reducible refine gb_drew ?_) | (with_reducible refine gb_drewN ?_ _) | ((with_reducible refine gb_set ?_ _ _ ?h2); case h2 => first | exact .inl rfl | exact .inr (Nat.le_refl _) | exact .inr (by simp <;> omega)) | (with_reducible refine gb_sub ?_ (by assumption)) | (with_reducible refine gb_trans ?_ (by assumption))))
end

end Go.Proofs.YtmcajbhljbbglaaGreatDoor
