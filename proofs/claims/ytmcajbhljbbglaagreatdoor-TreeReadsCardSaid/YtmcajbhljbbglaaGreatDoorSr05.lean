/-
  The reference's lexer: quoted.
  The reference's lexer: token.
  The reference's lexer: step.
-/
import Derived.Test.YtmcajbhljbbglaaGreatDoorSr04
set_option linter.all false
set_option linter.unusedVariables false
set_option linter.unusedSimpArgs false
set_option linter.unnecessarySimpa false
set_option linter.constructorNameAsVariable false
set_option linter.deprecated false

namespace Go.Proofs.YtmcajbhljbbglaaGreatDoor
open Go.RowKit

theorem slice_part (s : Bs) (i j : Nat) : (⟨s.toArray⟩ : ByteArray).extract i j = ⟨(sliceM s i j).toArray⟩ := ba_extract s i j

theorem put_anyI {w : World} {b : Nat} {s : Bs} {i : Nat} {line : Bool} {wrong : Int} {ov : Value} {pre : List Tok} (h : Rl w b s i line wrong ov pre) (k : Int) (t : Bs) (z : Int) (n : Nat) (hz : z = n) (hn : i + n ≤ s.length) (hc : pre.length ≤ 100000) :
    Calls Tryz.prog 172 #[.pointer (some ⟨b, 0, none⟩), .int .i64 k, str t, .int .i64 z] w (PutPost w b s (i + n) true wrong (pre ++ [⟨k, i, t⟩])) := by
  subst hz; exact put_any h k t n hn hc

section
variable {w : World} {b : Nat} {s : Bs} {i : Nat} {line : Bool} {ov : Value} {pre : List Tok}

set_option maxRecDepth 20000 in
set_option maxHeartbeats 4000000 in
theorem quoted_any (h : Rl w b s i line (-1) ov pre) (hi : i < s.length) (hq : bAt s i = 34 ∨ bAt s i = 39) (hc : pre.length ≤ 100000) :
    Calls Tryz.prog 174 #[.pointer (some ⟨b, 0, none⟩)] w (RTok w b s (quoteM s i) pre) := by
  have hb := h.lt
  have hf := h.few
  have c0 := h.c0
  have c1 := h.c1
  have hg := fun h => ba_at s i h hi
  have HQ := Lib.hid hq
  have HH := Lib.hid h
  clear hq h
  go_enter Tryz.func174, Tryz.ntmps174
  go_wp2_with fail
  go_quiet (fail)
  have h1 := HH.out.drewN nq
  have d1 := h1.c1
  have H1 := Lib.hid h1
  have hW : Below b w (w.drewN nq) := below_none (gb_drewN (gb_refl _ _) _) (by omega)
  have HW := Lib.hid hW
  have hsz : b < (w.drewN nq).heap.size := h1.lt
  clear h1 HH hW c0 c1 hg
  generalize hw0 : w.drewN nq = w0 at *
  clear hw0
  go_wp2_with fail
  go_loopg [3] (s.length - (i + 1)) (fun g v3 wr => ∃ k : Nat, k + g = s.length ∧ v3 = .int .i64 k ∧ runM s (fun x => x != 10 && x != bAt s i) k = quoteEnd s i ∧ w0 = wr)
  case atStart => exact ⟨i + 1, by omega, by go_num, rfl, rfl⟩
  case round =>
    obtain ⟨k, hk, rfl, hr, rfl⟩ := hrel
    have h0 := H1.out
    have c0 := h0.c0
    have c1 := h0.c1
    clear d1
    by_cases hend : k < s.length ∧ (bAt s k != 10 && bAt s k != bAt s i) = true
    · obtain ⟨hkl, hx⟩ := hend
      obtain ⟨gk', rfl⟩ : ∃ g', gk = g' + 1 := ⟨gk - 1, by omega⟩
      have hj1 : decide (k < s.length) = true := by simp; omega
      have hg := fun h => ba_at s k h hkl
      have HN := Lib.hid (show runM s (fun x => x != 10 && x != bAt s i) (k + 1) = quoteEnd s i by rw [← hr]; exact (runM_step hkl hx).symm)
      simp only [Bool.and_eq_true, bne_iff_ne, ne_eq] at hx
      have e10 : (((bAt s k).toNat : Int) != 10) = true := by
        simp only [bne_iff_ne, ne_eq]; intro e; exact hx.1 (by apply UInt8.toNat_inj.1; simpa using (by omega : (bAt s k).toNat = 10))
      have eq : (((bAt s k).toNat : Int) != ((bAt s i).toNat : Int)) = true := by
        simp only [bne_iff_ne, ne_eq]; intro e; exact hx.2 (by apply UInt8.toNat_inj.1; omega)
      clear hx hr h0
      go_wp2
      go_roundg gk'
      case measure => omega
      case rel => exact ⟨k + 1, by omega, by go_num, HN.out, rfl⟩
    · have hkq : k = quoteEnd s i := by
        rw [← hr]
        by_cases hkl : k < s.length
        · rw [runM_stop hkl]
          cases hx : (bAt s k != 10 && bAt s k != bAt s i) with
          | false => rfl
          | true => exact absurd ⟨hkl, hx⟩ hend
        · rw [runM_end (by omega)]
      clear hr
      by_cases hbad : k < s.length ∧ bAt s k ≠ 10
      · obtain ⟨hkl, h10⟩ := hbad
        have hxi : bAt s k = bAt s i := by
          by_cases e : bAt s k = bAt s i
          · exact e
          · exact absurd ⟨hkl, by simp [h10, e]⟩ hend
        have hj1 : decide (k < s.length) = true := by simp; omega
        have hj2 : decide (s.length ≤ k) = false := by simp; omega
        have hg := fun h => ba_at s k h hkl
        rw [hxi] at hg
        have e10 : (((bAt s i).toNat : Int) != 10) = true := by
          rcases HQ.out with e | e <;> rw [e] <;> rfl
        have e10' : (((bAt s i).toNat : Int) == 10) = false := by
          rcases HQ.out with e | e <;> rw [e] <;> rfl
        have hR := quote_res hi HQ.out (by rw [← hkq]; exact hkl) (by rw [← hkq]; exact h10)
        rw [← hkq] at hR
        have hik : i + 1 ≤ k := by rw [hkq]; exact runM_ge _ _ _
        have HR := Lib.hid hR
        clear hR hend hkq h10 hxi h0
        go_wp2_with fail
        go_loopg [4] (k - i) (fun g v4 wr => ∃ j : Nat, j + g = k ∧ i ≤ j ∧ v4 = .int .i64 j ∧ Rl wr b s i line (badOf s i j) ov pre ∧ w0.grownBy wr (some b))
        case atStart =>
          refine ⟨i, by omega, Nat.le_refl _, rfl, H1.out.wr_eq ?_, gb_refl _ _⟩
          unfold badOf
          rw [if_neg (by have := runM_ge s (fun b => !cls 4 b) i; omega)]
        case round =>
          obtain ⟨j, hj, hij, rfl, hs, gr⟩ := hrel
          have HG := Lib.hid gr
          clear gr
          have c0 := hs.c0
          have c1 := hs.c1
          have hbl := hs.lt
          cases gk with
          | zero =>
            have hjk : j = k := by omega
            subst hjk
            have hkI : decide (j < j) = false := by simp
            have HS := Lib.hid hs
            have hx := slice_part s (i + 1) j
            have HP := Lib.hid (fun (W : World) (h : Rl W b s i line (badOf s i j) ov pre) => put_anyI h 2 (sliceM s (i + 1) j) ((j : Int) + 1 - i) (j + 1 - i) (by omega) (by omega) hc)
            have hw1 : IntKind.i64.wrap ((i : Int) + 1) = (i : Int) + 1 := IntWalk.i64_in _ (by omega)
            have hw2 : IntKind.i64.wrap ((j : Int) + 1) = (j : Int) + 1 := IntWalk.i64_in _ (by omega)
            have hw3 : IntKind.i64.wrap ((j : Int) + 1 - i) = (j : Int) + 1 - i := IntWalk.i64_in _ (by omega)
            have hl2 : (i : Int) + 1 ≤ j := by omega
            have hl3 : (j : Int) ≤ s.length := by omega
            have hl7 : j ≤ s.length := by omega
            clear hs HQ
            go_wp2_with fail
            go_region_with (go_at_call 172; refine (HP.out _ (HS.out.drewN 1)).mono ?_; rintro e w5 ⟨rfl, hB5, ov5, h5⟩)
            all_goals
              have HE := Lib.hid (And.intro hB5 h5)
              clear hB5 h5
              go_wp2
              go_end0
              have gB := (HW.out.trans (below_some HG.out (by omega))).trans ((below_none (gb_drew (gb_refl _ _)) (by omega)).trans HE.out.1)
              rcases HR.out with ⟨hw, hM⟩ | ⟨q, hw, hM⟩
              · have h6 := HE.out.2.wr_eq hw
                exact rTok_tok hM gB (h6.at_eq (by omega))
              · exact rTok_bad hM gB (HE.out.2.wr_eq hw)
          | succ gk =>
            have hjk : j < k := by omega
            have hkI : decide (j < k) = true := by simpa using hjk
            have hjl : j < s.length := by omega
            have hg := fun h => ba_at s j h hjl
            clear HQ
            cases hc4 : cls 4 (bAt s j) with
            | false =>
              have HN := Lib.hid (badOf_step (i := i) hjl hc4)
              have HC := Lib.hid hc4
              have HS := Lib.hid hs
              clear hc4 hs
              go_wp2_with fail
              refine (rIsByte_any _ _).mono ?_
              rintro e w1 ⟨rfl, rfl⟩
              rw [HC.out]
              go_wp2
              go_roundg gk
              case measure => omega
              case rel => exact ⟨j + 1, by omega, by omega, by go_num, HS.out.wr_eq HN.out.symm, HG.out⟩
            | true =>
              have hN := badOf_hit (s := s) hij hc4
              have HC := Lib.hid hc4
              clear hc4
              go_wp2_with fail
              refine (rIsByte_any _ _).mono ?_
              rintro e w1 ⟨rfl, rfl⟩
              rw [HC.out]
              rcases hN with ⟨e1, e2⟩ | ⟨q, hqj, e1, e2⟩
              · rw [e1] at hs
                have E2 := Lib.hid e2
                clear e1 e2
                go_wp2_with fail
                refine (fails_new hs j).mono ?_
                rintro e w2 ⟨rfl, hs2, g2⟩
                have HS2 := Lib.hid (hs2.wr_eq E2.out.symm)
                clear hs2 hs
                go_wp2
                go_roundg gk
                case measure => omega
                case rel => exact ⟨j + 1, by omega, by omega, by go_num, HS2.out, gb_trans HG.out g2⟩
              · rw [e1] at hs
                have E2 := Lib.hid e2
                clear e1 e2
                go_wp2_with fail
                refine (fails_old hs j hqj).mono ?_
                rintro e w2 ⟨rfl, hs2, g2⟩
                have HS2 := Lib.hid (hs2.wr_eq E2.out.symm)
                clear hs2 hs
                go_wp2
                go_roundg gk
                case measure => omega
                case rel => exact ⟨j + 1, by omega, by omega, by go_num, HS2.out, gb_trans HG.out g2⟩
      · have HM := Lib.hid (show quoteM s i = .bad i from quoteM_no (by rw [← hkq]; exact hbad))
        by_cases hkl : k < s.length
        · have h10 : bAt s k = 10 := by
            by_cases e : bAt s k = 10
            · exact e
            · exact absurd ⟨hkl, e⟩ hbad
          have hj1 : decide (k < s.length) = true := by simp; omega
          have hj2 : decide (s.length ≤ k) = false := by simp; omega
          have hg := fun h => ba_at s k h hkl
          rw [h10] at hg
          clear h10 hbad hend hkq HQ
          go_wp2_with fail
          refine (fails_new H1.out i).mono ?_
          rintro e w2 ⟨rfl, hs2, g2⟩
          go_wp2
          go_end0
          exact rTok_bad HM.out (HW.out.trans (below_some g2 (by omega))) hs2
        · have hj1 : decide (k < s.length) = false := by simp; omega
          have hj2 : decide (s.length ≤ k) = true := by simp; omega
          clear hbad hend hkq HQ
          go_wp2_with fail
          refine (fails_new H1.out i).mono ?_
          rintro e w2 ⟨rfl, hs2, g2⟩
          go_wp2
          go_end0
          exact rTok_bad HM.out (HW.out.trans (below_some g2 (by omega))) hs2
end

end Go.Proofs.YtmcajbhljbbglaaGreatDoor

namespace Go.Proofs.YtmcajbhljbbglaaGreatDoor
open Go.RowKit

theorem tokenM_word {s : Bs} {i n : Nat} (hc : cls 1 (bAt s i) = true) (hn : runM s wordB i = i + n) : tokenM s i = if 24 < n then .bad i else .tok ⟨0, i, Lib.toUpperA (sliceM s i (i + n))⟩ (i + n) true := by
  unfold tokenM
  rw [if_pos hc, hn, show i + n - i = n by omega]
theorem tokenM_num {s : Bs} {i n : Nat} (h1 : cls 1 (bAt s i) = false) (hc : cls 2 (bAt s i) = true) (hn : runM s (cls 2) i = i + n) : tokenM s i = if 15 < n then .bad i else .tok ⟨1, i, sliceM s i (i + n)⟩ (i + n) true := by
  unfold tokenM
  rw [if_neg (by rw [h1]; simp), if_pos hc, hn, show i + n - i = n by omega]
theorem tokenM_quote {s : Bs} {i : Nat} (hq : bAt s i = 34 ∨ bAt s i = 39) : tokenM s i = quoteM s i := by
  have h1 : cls 1 (bAt s i) = false := by rcases hq with h | h <;> rw [h] <;> decide
  have h2 : cls 2 (bAt s i) = false := by rcases hq with h | h <;> rw [h] <;> decide
  unfold tokenM
  rw [if_neg (by rw [h1]; simp), if_neg (by rw [h2]; simp), if_pos hq]
theorem tokenM_rest {s : Bs} {i : Nat} (h1 : cls 1 (bAt s i) = false) (h2 : cls 2 (bAt s i) = false) (hq : ¬ (bAt s i = 34 ∨ bAt s i = 39)) : tokenM s i = match dateM (s.drop i) with
    | some (d, n) => .tok ⟨3, i, d⟩ (i + n) true
    | none => match signM s i with
      | some w => .tok ⟨4, i, w⟩ (i + w.length) true
      | none => .bad i := by
  unfold tokenM
  rw [if_neg (by rw [h1]; simp), if_neg (by rw [h2]; simp), if_neg hq]
  rfl

/-- what stands behind the first rows of 'token' and of 'step' -/
structure TkS (w : World) (b : Nat) (s : Bs) (i : Nat) (line : Bool) (ov : Value) (pre : List Tok) (W : World) : Prop where
  rl : Rl W b s i line (-1) ov pre
  below : Below b w W
theorem TkS.gbN {w W W1 : World} {b : Nat} {s : Bs} {i : Nat} {line : Bool} {ov : Value} {pre : List Tok} (h : TkS w b s i line ov pre W) (g : W.grownBy W1 none) : TkS w b s i line ov pre W1 :=
  ⟨h.rl.gbN g, h.below.trans (below_none g (Nat.le_of_lt h.rl.lt))⟩

section
variable {w : World} {b : Nat} {s : Bs} {i : Nat} {line : Bool} {ov : Value} {pre : List Tok}

set_option maxRecDepth 20000 in
set_option maxHeartbeats 4000000 in
theorem rToken_word (h : Rl w b s i line (-1) ov pre) (hi : i < s.length) (hc : pre.length ≤ 100000) (h1 : cls 1 (bAt s i) = true) :
    Calls Tryz.prog 125 #[.pointer (some ⟨b, 0, none⟩)] w (RTok w b s (tokenM s i) pre) := by
  have hb := h.lt
  have hf := h.few
  have c0 := h.c0
  have c1 := h.c1
  have hg := fun h => ba_at s i h hi
  have hge := runM_ge s wordB i
  have hle := runM_le (p := wordB) (Nat.le_of_lt hi)
  obtain ⟨n, hn⟩ : ∃ n, runM s wordB i = i + n := ⟨runM s wordB i - i, by omega⟩
  have hrun := fun (W : World) (hW : Rl W b s i line (-1) ov pre) => rRun_any hW true wordB (fun x => by simp [wordB, Bool.or_comm])
  rw [hn, show i + n - i = n by omega] at hrun
  have HM := Lib.hid (tokenM_word h1 hn)
  have HR := Lib.hid hrun
  have HC := Lib.hid h1
  have HH := Lib.hid h
  rw [hn] at hge hle
  clear h hrun hn h1
  go_enter Tryz.func125, Tryz.ntmps125
  go_wp2_with fail
  go_quiet (fail)
  have HT := Lib.hid (show TkS w b s i line ov pre (w.drewN nq) from ⟨HH.out.drewN nq, below_none (gb_drewN (gb_refl _ _) _) (by omega)⟩)
  clear c0 c1 hg
  generalize hw0 : w.drewN nq = w0 at *
  clear hw0
  go_wp2_with fail
  refine (rIsLetter_any _ _).mono ?_
  rintro e w1 ⟨rfl, rfl⟩
  rw [HC.out]
  go_wp2_with fail
  refine (HR.out _ HT.out.rl).mono ?_
  rintro e w1 ⟨rfl, g1⟩
  have HT1 := Lib.hid (HT.out.gbN g1)
  have c0 := HT1.out.rl.c0
  have c1 := HT1.out.rl.c1
  have hb1 := HT1.out.rl.lt
  by_cases hm : 24 < n
  · have HQ := Lib.hid (show tokenM s i = .bad i by rw [HM.out, if_pos hm])
    have hm1 : decide ((24 : Int) < n) = true := by simp; omega
    go_wp2_with fail
    refine (fails_new HT1.out.rl i).mono ?_
    rintro e w2 ⟨rfl, h2, g2⟩
    go_wp2
    go_end0
    exact rTok_bad HQ.out (HT1.out.below.trans (below_some g2 (by omega))) h2
  · have HQ := Lib.hid (show tokenM s i = .tok ⟨0, i, Lib.toUpperA (sliceM s i (i + n))⟩ (i + n) true by rw [HM.out, if_neg hm])
    have hm1 : decide ((24 : Int) < n) = false := by simp; omega
    have hw1 : IntKind.i64.wrap ((i : Int) + n) = (i : Int) + n := IntWalk.i64_in _ (by omega)
    have hw2 : ((i : Int) + n).toNat = i + n := by omega
    have hl1 : (i : Int) ≤ (i : Int) + n := by omega
    have hl2 : (i : Int) + n ≤ s.length := by omega
    have hl3 : (0 : Int) ≤ (i : Int) + n := by omega
    have HU := Lib.hid (fun (W : World) => caps_part s hf i (i + n) W)
    have HP := Lib.hid (fun (W : World) (h : Rl W b s i line (-1) ov pre) => put_any h 0 (Lib.toUpperA (sliceM s i (i + n))) n (by omega) hc)
    generalize Lib.toUpperA (sliceM s i (i + n)) = T at *
    go_wp2_with fail
    go_region_with (first | (go_at_call 141; refine (HU.out _).mono ?_; rintro e w5 ⟨rfl, g5⟩) | (go_at_call 172; refine (HP.out _ ((HT1.out.rl.drewN 1).gbN g5)).mono ?_; rintro e w6 ⟨rfl, hB6, ov6, h6⟩))
    all_goals
      have HE := Lib.hid (And.intro hB6 h6)
      clear hB6 h6
      go_wp2
      go_end0
      exact rTok_tok HQ.out (((HT1.out.gbN (gb_drew (gb_refl _ _))).gbN g5).below.trans HE.out.1) HE.out.2

set_option maxRecDepth 20000 in
set_option maxHeartbeats 4000000 in
theorem rToken_num (h : Rl w b s i line (-1) ov pre) (hi : i < s.length) (hc : pre.length ≤ 100000) (h0 : cls 1 (bAt s i) = false) (h1 : cls 2 (bAt s i) = true) :
    Calls Tryz.prog 125 #[.pointer (some ⟨b, 0, none⟩)] w (RTok w b s (tokenM s i) pre) := by
  have hb := h.lt
  have hf := h.few
  have c0 := h.c0
  have c1 := h.c1
  have hg := fun h => ba_at s i h hi
  have hge := runM_ge s (cls 2) i
  have hle := runM_le (p := cls 2) (Nat.le_of_lt hi)
  obtain ⟨n, hn⟩ : ∃ n, runM s (cls 2) i = i + n := ⟨runM s (cls 2) i - i, by omega⟩
  have hrun := fun (W : World) (hW : Rl W b s i line (-1) ov pre) => rRun_any hW false (cls 2) (fun x => by simp)
  rw [hn, show i + n - i = n by omega] at hrun
  have HM := Lib.hid (tokenM_num h0 h1 hn)
  have HR := Lib.hid hrun
  have HC := Lib.hid (And.intro h0 h1)
  have HH := Lib.hid h
  rw [hn] at hge hle
  clear h hrun hn h1 h0
  go_enter Tryz.func125, Tryz.ntmps125
  go_wp2_with fail
  go_quiet (fail)
  have HT := Lib.hid (show TkS w b s i line ov pre (w.drewN nq) from ⟨HH.out.drewN nq, below_none (gb_drewN (gb_refl _ _) _) (by omega)⟩)
  clear c0 c1 hg
  generalize hw0 : w.drewN nq = w0 at *
  clear hw0
  go_wp2_with fail
  refine (rIsLetter_any _ _).mono ?_
  rintro e w1 ⟨rfl, rfl⟩
  rw [HC.out.1]
  go_wp2_with fail
  refine (rIsDigit_any _ _).mono ?_
  rintro e w1 ⟨rfl, rfl⟩
  rw [HC.out.2]
  go_wp2_with fail
  refine (HR.out _ HT.out.rl).mono ?_
  rintro e w1 ⟨rfl, g1⟩
  have HT1 := Lib.hid (HT.out.gbN g1)
  have c0 := HT1.out.rl.c0
  have c1 := HT1.out.rl.c1
  have hb1 := HT1.out.rl.lt
  by_cases hm : 15 < n
  · have HQ := Lib.hid (show tokenM s i = .bad i by rw [HM.out, if_pos hm])
    have hm1 : decide ((15 : Int) < n) = true := by simp; omega
    go_wp2_with fail
    refine (fails_new HT1.out.rl i).mono ?_
    rintro e w2 ⟨rfl, h2, g2⟩
    go_wp2
    go_end0
    exact rTok_bad HQ.out (HT1.out.below.trans (below_some g2 (by omega))) h2
  · have HQ := Lib.hid (show tokenM s i = .tok ⟨1, i, sliceM s i (i + n)⟩ (i + n) true by rw [HM.out, if_neg hm])
    have hm1 : decide ((15 : Int) < n) = false := by simp; omega
    have hw1 : IntKind.i64.wrap ((i : Int) + n) = (i : Int) + n := IntWalk.i64_in _ (by omega)
    have hw2 : ((i : Int) + n).toNat = i + n := by omega
    have hl1 : (i : Int) ≤ (i : Int) + n := by omega
    have hl2 : (i : Int) + n ≤ s.length := by omega
    have hl3 : (0 : Int) ≤ (i : Int) + n := by omega
    have hx := slice_part s i (i + n)
    have HP := Lib.hid (fun (W : World) (h : Rl W b s i line (-1) ov pre) => put_any h 1 (sliceM s i (i + n)) n (by omega) hc)
    generalize sliceM s i (i + n) = T at *
    go_wp2_with fail
    go_region_with (go_at_call 172; refine (HP.out _ (HT1.out.rl.drewN 1)).mono ?_; rintro e w6 ⟨rfl, hB6, ov6, h6⟩)
    all_goals
      have HE := Lib.hid (And.intro hB6 h6)
      clear hB6 h6
      go_wp2
      go_end0
      exact rTok_tok HQ.out ((HT1.out.gbN (gb_drew (gb_refl _ _))).below.trans HE.out.1) HE.out.2

theorem quote_cond (x : UInt8) : (x = 34 ∨ x = 39) ↔ (((x.toNat : Int) == 34) = true ∨ ((x.toNat : Int) == 39) = true) := by
  rw [show ((x.toNat : Int) == 34) = (x == 34) from u8i (n := 34) (by decide), show ((x.toNat : Int) == 39) = (x == 39) from u8i (n := 39) (by decide)]
  simp

theorem rTok_below {w W w' : World} {b : Nat} {s : Bs} {r : St} {pre : List Tok} {e : Ending} (g : Below b w W) (h : RTok W b s r pre e w') : RTok w b s r pre e w' := ⟨h.1, g.trans h.2.1, h.2.2⟩

set_option maxRecDepth 20000 in
set_option maxHeartbeats 4000000 in
theorem rToken_quote (h : Rl w b s i line (-1) ov pre) (hi : i < s.length) (hc : pre.length ≤ 100000) (hq : bAt s i = 34 ∨ bAt s i = 39) :
    Calls Tryz.prog 125 #[.pointer (some ⟨b, 0, none⟩)] w (RTok w b s (tokenM s i) pre) := by
  have hb := h.lt
  have hf := h.few
  have c0 := h.c0
  have c1 := h.c1
  have hg := fun h => ba_at s i h hi
  have h1 : cls 1 (bAt s i) = false := by rcases hq with h | h <;> rw [h] <;> decide
  have h2 : cls 2 (bAt s i) = false := by rcases hq with h | h <;> rw [h] <;> decide
  have HM := Lib.hid (tokenM_quote hq)
  have HC := Lib.hid (And.intro h1 h2)
  have HH := Lib.hid h
  have HQ := Lib.hid hq
  have hq2 := (quote_cond _).1 hq
  clear h h1 h2 hq
  go_enter Tryz.func125, Tryz.ntmps125
  go_wp2_with fail
  go_quiet (fail)
  have HT := Lib.hid (show TkS w b s i line ov pre (w.drewN nq) from ⟨HH.out.drewN nq, below_none (gb_drewN (gb_refl _ _) _) (by omega)⟩)
  clear c0 c1 hg
  generalize hw0 : w.drewN nq = w0 at *
  clear hw0
  go_wp2_with fail
  refine (rIsLetter_any _ _).mono ?_
  rintro e w1 ⟨rfl, rfl⟩
  rw [HC.out.1]
  go_wp2_with fail
  refine (rIsDigit_any _ _).mono ?_
  rintro e w1 ⟨rfl, rfl⟩
  rw [HC.out.2]
  have hqf : ((((bAt s i).toNat : Int) == 34) = true) ∨ ((((bAt s i).toNat : Int) == 34) = false ∧ (((bAt s i).toNat : Int) == 39) = true) := by
    cases hx : (((bAt s i).toNat : Int) == 34) with
    | true => exact .inl rfl
    | false => rw [hx] at hq2; simp only [Bool.false_eq_true, false_or] at hq2; exact .inr ⟨rfl, hq2⟩
  clear hq2
  rcases hqf with hx | ⟨hx, hy⟩
  all_goals
    go_wp2_with fail
    refine (quoted_any HT.out.rl hi HQ.out hc).mono ?_
    rintro e w2 h2
    obtain ⟨rfl, _⟩ := id h2
    have H2 := Lib.hid h2
    clear h2
    go_wp2
    go_end0
    rw [HM.out]
    exact rTok_below HT.out.below H2.out

set_option maxRecDepth 20000 in
set_option maxHeartbeats 4000000 in
theorem rToken_rest (h : Rl w b s i line (-1) ov pre) (hi : i < s.length) (hc : pre.length ≤ 100000) (h1 : cls 1 (bAt s i) = false) (h2 : cls 2 (bAt s i) = false) (hq : ¬ (bAt s i = 34 ∨ bAt s i = 39)) :
    Calls Tryz.prog 125 #[.pointer (some ⟨b, 0, none⟩)] w (RTok w b s (tokenM s i) pre) := by
  have hb := h.lt
  have hf := h.few
  have c0 := h.c0
  have c1 := h.c1
  have hg := fun h => ba_at s i h hi
  have HM := Lib.hid (tokenM_rest h1 h2 hq)
  have HC := Lib.hid (And.intro h1 h2)
  have HH := Lib.hid h
  have hq34 : (((bAt s i).toNat : Int) == 34) = false := by
    cases hx : (((bAt s i).toNat : Int) == 34) with
    | false => rfl
    | true => exact absurd ((quote_cond _).2 (.inl hx)) hq
  have hq39 : (((bAt s i).toNat : Int) == 39) = false := by
    cases hx : (((bAt s i).toNat : Int) == 39) with
    | false => rfl
    | true => exact absurd ((quote_cond _).2 (.inr hx)) hq
  clear h h1 h2 hq
  go_enter Tryz.func125, Tryz.ntmps125
  go_wp2_with fail
  go_quiet (fail)
  have HT := Lib.hid (show TkS w b s i line ov pre (w.drewN nq) from ⟨HH.out.drewN nq, below_none (gb_drewN (gb_refl _ _) _) (by omega)⟩)
  clear c0 c1 hg
  generalize hw0 : w.drewN nq = w0 at *
  clear hw0
  go_wp2_with fail
  refine (rIsLetter_any _ _).mono ?_
  rintro e w1 ⟨rfl, rfl⟩
  rw [HC.out.1]
  go_wp2_with fail
  refine (rIsDigit_any _ _).mono ?_
  rintro e w1 ⟨rfl, rfl⟩
  rw [HC.out.2]
  have c0 := HT.out.rl.c0
  have c1 := HT.out.rl.c1
  have hb1 := HT.out.rl.lt
  cases hd : dateM (s.drop i) with
  | some p =>
    obtain ⟨d, n⟩ := p
    have hdl := dateM_len hd
    simp only [List.length_drop] at hdl
    have HQ := Lib.hid (show tokenM s i = .tok ⟨3, i, d⟩ (i + n) true by rw [HM.out, hd])
    have HD := Lib.hid (fun (W : World) => (dateAt_any s hf i hi W).mono (fun e w' (hp : RDatePost W (s.drop i) e w') => (show e = .returned (.tuple #[str d, .int .i64 n]) ∧ W.grownBy w' none from ⟨by have := hp.2; rw [hd] at this; exact this, hp.1⟩)))
    have hn0 : decide ((0 : Int) < n) = true := by simp; omega
    clear hd
    go_wp2_with fail
    go_region_with (go_at_call 175; refine (HD.out _).mono ?_; rintro e w5 ⟨rfl, g5⟩)
    all_goals
      have HT5 := Lib.hid ((HT.out.gbN (gb_drew (gb_refl _ _))).gbN g5)
      have HP := Lib.hid (put_any HT5.out.rl 3 d n (by omega) hc)
      go_wp2_with fail
      refine HP.out.mono ?_
      rintro e w6 ⟨rfl, hB6, ov6, h6⟩
      have HE := Lib.hid (And.intro hB6 h6)
      clear hB6 h6
      go_wp2
      go_end0
      exact rTok_tok HQ.out (HT5.out.below.trans HE.out.1) HE.out.2
  | none =>
    have HM2 := Lib.hid (show tokenM s i = match signM s i with
      | some w => .tok ⟨4, i, w⟩ (i + w.length) true
      | none => .bad i by rw [HM.out, hd])
    have HD := Lib.hid (fun (W : World) => (dateAt_any s hf i hi W).mono (fun e w' (hp : RDatePost W (s.drop i) e w') => (show e = .returned (.tuple #[str [], .int .i64 0]) ∧ W.grownBy w' none from ⟨by have := hp.2; rw [hd] at this; exact this, hp.1⟩)))
    have HS := Lib.hid (fun (W : World) => signAt_any s hf i (Nat.le_of_lt hi) W)
    clear hd
    cases hs : signM s i with
    | none =>
      have HQ := Lib.hid (show tokenM s i = .bad i by rw [HM2.out, hs])
      rw [hs] at HS
      clear hs
      go_wp2_with fail
      go_region_with (go_at_call 175; refine (HD.out _).mono ?_; rintro e w5 ⟨rfl, g5⟩)
      all_goals
        have HT5 := Lib.hid ((HT.out.gbN (gb_drew (gb_refl _ _))).gbN g5)
        have d0 := HT5.out.rl.c0
        have d1 := HT5.out.rl.c1
        have hb5 := HT5.out.rl.lt
        clear c0 c1
        go_wp2_with fail
        go_region_with (go_at_call 176; refine (HS.out _).mono ?_; rintro e w6 ⟨rfl, g6⟩)
        all_goals
          have HT6 := Lib.hid ((HT5.out.gbN (gb_drew (gb_refl _ _))).gbN g6)
          have f1 := HT6.out.rl.c1
          go_wp2_with fail
          refine (fails_new HT6.out.rl i).mono ?_
          rintro e w7 ⟨rfl, h7, g7⟩
          have HE := Lib.hid (And.intro g7 h7)
          have hb6 := HT6.out.rl.lt
          clear g7 h7
          go_wp2
          go_end0
          exact rTok_bad HQ.out (HT6.out.below.trans (below_some HE.out.1 (by omega))) HE.out.2
    | some x =>
      obtain ⟨hx1, hx2, _⟩ := signM_len hs
      have hx3 := signsL_len hx1
      have HQ := Lib.hid (show tokenM s i = .tok ⟨4, i, x⟩ (i + x.length) true by rw [HM2.out, hs])
      rw [hs] at HS
      have hne : (x == []) = false := by
        cases x with
        | nil => simp at hx3
        | cons a r => rfl
      clear hs hx1
      go_wp2_with fail
      go_region_with (go_at_call 175; refine (HD.out _).mono ?_; rintro e w5 ⟨rfl, g5⟩)
      all_goals
        have HT5 := Lib.hid ((HT.out.gbN (gb_drew (gb_refl _ _))).gbN g5)
        have d0 := HT5.out.rl.c0
        have d1 := HT5.out.rl.c1
        have hb5 := HT5.out.rl.lt
        clear c0 c1
        go_wp2_with fail
        go_region_with (go_at_call 176; refine (HS.out _).mono ?_; rintro e w6 ⟨rfl, g6⟩)
        all_goals
          have HT6 := Lib.hid ((HT5.out.gbN (gb_drew (gb_refl _ _))).gbN g6)
          have HP := Lib.hid (put_any HT6.out.rl 4 x x.length (by omega) hc)
          go_wp2_with fail
          refine HP.out.mono ?_
          rintro e w7 ⟨rfl, hB6, ov6, h6⟩
          have HE := Lib.hid (And.intro hB6 h6)
          clear hB6 h6
          go_wp2
          go_end0
          exact rTok_tok HQ.out (HT6.out.below.trans HE.out.1) HE.out.2

theorem rToken_any (h : Rl w b s i line (-1) ov pre) (hi : i < s.length) (hc : pre.length ≤ 100000) :
    Calls Tryz.prog 125 #[.pointer (some ⟨b, 0, none⟩)] w (RTok w b s (tokenM s i) pre) := by
  cases h1 : cls 1 (bAt s i) with
  | true => exact rToken_word h hi hc h1
  | false =>
    cases h2 : cls 2 (bAt s i) with
    | true => exact rToken_num h hi hc h1 h2
    | false =>
      by_cases hq : bAt s i = 34 ∨ bAt s i = 39
      · exact rToken_quote h hi hc hq
      · exact rToken_rest h hi hc h1 h2 hq
end

end Go.Proofs.YtmcajbhljbbglaaGreatDoor

namespace Go.Proofs.YtmcajbhljbbglaaGreatDoor
open Go.RowKit

theorem step_blank {s : Bs} {j : Nat} {l : Bool} (h : j < s.length) (hb : cls 3 (bAt s j) = true) : lexStep s j l = .again (j + 1) l := by
  unfold lexStep
  rw [if_neg (by omega), if_neg (blank_ne hb), if_pos hb]

section
variable {w : World} {b : Nat} {s : Bs} {i : Nat} {line : Bool} {ov : Value} {pre : List Tok}

set_option maxRecDepth 20000 in
set_option maxHeartbeats 4000000 in
theorem rStep_nl (h : Rl w b s i line (-1) ov pre) (hi : i < s.length) (hc : pre.length ≤ 100000) (h10 : bAt s i = 10) :
    Calls Tryz.prog 91 #[.pointer (some ⟨b, 0, none⟩)] w (RTok w b s (lexStep s i line) pre) := by
  have hb := h.lt
  have hf := h.few
  have c0 := h.c0
  have c1 := h.c1
  have hg := fun h => ba_at s i h hi
  rw [h10] at hg
  have HM := Lib.hid (step_nl (l := line) hi h10)
  have HH := Lib.hid h
  clear h h10
  go_enter Tryz.func91, Tryz.ntmps91
  go_wp2_with fail
  go_quiet (fail)
  have HT := Lib.hid (show TkS w b s i _ ov pre (w.drewN nq) from ⟨HH.out.drewN nq, below_none (gb_drewN (gb_refl _ _) _) (by omega)⟩)
  clear c0 c1 hg
  generalize hw0 : w.drewN nq = w0 at *
  clear hw0
  go_wp2_with fail
  refine (ends_any HT.out.rl hc).mono ?_
  rintro e w1 ⟨rfl, hB, ov1, h1⟩
  have HE := Lib.hid (And.intro hB h1)
  have c1 := h1.c1
  have f1 := h1.fr 1
  have hb1 := h1.lt
  clear hB h1
  go_wp2
  go_end0
  have h2 := HE.out.2.go _ (i + 1) rfl (by omega)
  have gB := HT.out.below.trans (HE.out.1.trans (below_some (gb_set (gb_refl _ _) ⟨b, 1, none⟩ (.int .i64 ((i : Int) + 1)) (.inl rfl)) (by omega)))
  rw [HM.out]
  cases line with
  | true => exact rTok_tok rfl gB h2
  | false => exact rTok_again rfl gB h2

set_option maxRecDepth 20000 in
set_option maxHeartbeats 4000000 in
theorem rStep_blank (h : Rl w b s i line (-1) ov pre) (hi : i < s.length) (hb3 : cls 3 (bAt s i) = true) :
    Calls Tryz.prog 91 #[.pointer (some ⟨b, 0, none⟩)] w (RTok w b s (lexStep s i line) pre) := by
  have hb := h.lt
  have hf := h.few
  have c0 := h.c0
  have c1 := h.c1
  have hg := fun h => ba_at s i h hi
  have h10 : (((bAt s i).toNat : Int) == 10) = false := by
    rw [show (((bAt s i).toNat : Int) == 10) = (bAt s i == 10) from u8i (n := 10) (by decide)]
    simpa using blank_ne hb3
  have HM := Lib.hid (step_blank (l := line) hi hb3)
  have HH := Lib.hid h
  have HC := Lib.hid hb3
  clear h hb3
  go_enter Tryz.func91, Tryz.ntmps91
  go_wp2_with fail
  go_quiet (fail)
  have HT := Lib.hid (show TkS w b s i _ ov pre (w.drewN nq) from ⟨HH.out.drewN nq, below_none (gb_drewN (gb_refl _ _) _) (by omega)⟩)
  clear c0 c1 hg
  generalize hw0 : w.drewN nq = w0 at *
  clear hw0
  have c1 := HT.out.rl.c1
  have f1 := HT.out.rl.fr 1
  go_wp2_with fail
  refine (rIsBlank_any _ _).mono ?_
  rintro e w1 ⟨rfl, rfl⟩
  rw [HC.out]
  go_wp2
  go_end0
  exact rTok_again HM.out (HT.out.below.trans (below_some (gb_set (gb_refl _ _) ⟨b, 1, none⟩ (.int .i64 ((i : Int) + 1)) (.inl rfl)) (by have := HT.out.rl.lt; omega))) (HT.out.rl.go _ (i + 1) rfl (by omega))

/-- a comment's end -/
theorem com_fin {w W w' : World} {line : Bool} (hM : lexStep s i line = match commentM s i with
      | some k => .bad k
      | none => .again (lineEndM s i) line) (hB : Below b w W) (hw : b ≤ W.heap.size) (g : W.grownBy w' (some b)) (h : Rl w' b s (lineEndM s i) line (wrongOf s i (lineEndM s i)) ov pre) : RTok w b s (lexStep s i line) pre (.returned (.tuple #[])) w' := by
  rw [hM]
  have e := wrongOf_end s i
  rw [e] at h
  cases hc : commentM s i with
  | some k => rw [hc] at h; exact rTok_bad rfl (hB.trans (below_some g hw)) h
  | none => rw [hc] at h; exact rTok_again rfl (hB.trans (below_some g hw)) h

set_option maxRecDepth 20000 in
set_option maxHeartbeats 4000000 in
theorem rStep_com (h : Rl w b s i line (-1) ov pre) (hi : i < s.length) (hI : InvF s i line) (h10 : bAt s i ≠ 10) (hb3 : cls 3 (bAt s i) = false) (hcom : ((bAt s i == 42 && !line) || ampAt s i) = true) :
    Calls Tryz.prog 91 #[.pointer (some ⟨b, 0, none⟩)] w (RTok w b s (lexStep s i line) pre) := by
  have hb := h.lt
  have hf := h.few
  have c0 := h.c0
  have c1 := h.c1
  have hg := fun h => ba_at s i h hi
  have HM := Lib.hid (step_com hi h10 hb3 hcom)
  have h10' : (((bAt s i).toNat : Int) == 10) = false := by
    rw [show (((bAt s i).toNat : Int) == 10) = (bAt s i == 10) from u8i (n := 10) (by decide)]
    simpa using h10
  have HH := Lib.hid h
  have HC := Lib.hid hb3
  clear h hb3 h10
  cases ha : ampAt s i with
  | true =>
    have HA := Lib.hid ha
    clear ha hcom
    go_enter Tryz.func91, Tryz.ntmps91
    go_wp2_with fail
    go_quiet (fail)
    have HT := Lib.hid (show TkS w b s i _ ov pre (w.drewN nq) from ⟨HH.out.drewN nq, below_none (gb_drewN (gb_refl _ _) _) (by omega)⟩)
    clear c0 c1 hg
    generalize hw0 : w.drewN nq = w0 at *
    clear hw0
    go_wp2_with fail
    refine (rIsBlank_any _ _).mono ?_
    rintro e w1 ⟨rfl, rfl⟩
    rw [HC.out]
    go_wp2_with fail
    refine (rIsComment_any HT.out.rl hi).mono ?_
    rintro e w1 ⟨rfl, g1⟩
    rw [HA.out]
    have HT1 := Lib.hid (HT.out.gbN g1)
    have c1 := HT1.out.rl.c1
    go_wp2_with fail
    refine (rEnd_any HT1.out.rl i (by omega)).mono ?_
    rintro e w2 ⟨rfl, g2⟩
    have HT2 := Lib.hid (HT1.out.gbN g2)
    go_wp2_with fail
    refine (rSkips_any HT2.out.rl).mono ?_
    rintro e w3 ⟨rfl, h3, g3⟩
    have HE := Lib.hid (And.intro h3 g3)
    clear h3 g3
    go_wp2
    go_end0
    exact com_fin HM.out HT2.out.below (Nat.le_of_lt HT2.out.rl.lt) HE.out.2 HE.out.1
  | false =>
    rw [ha, Bool.or_false] at hcom
    simp only [Bool.and_eq_true, beq_iff_eq, Bool.not_eq_true'] at hcom
    obtain ⟨h42, rfl⟩ := hcom
    have hfi : firstM s i = true := by
      rcases hI rfl hi with h | h
      · exact h
      · rw [h42] at h; cases h
    have h42' : (((bAt s i).toNat : Int) == 42) = true := by rw [h42]; rfl
    have HA := Lib.hid (And.intro ha hfi)
    clear ha h42 hfi
    go_enter Tryz.func91, Tryz.ntmps91
    go_wp2_with fail
    go_quiet (fail)
    have HT := Lib.hid (show TkS w b s i _ ov pre (w.drewN nq) from ⟨HH.out.drewN nq, below_none (gb_drewN (gb_refl _ _) _) (by omega)⟩)
    clear c0 c1 hg
    generalize hw0 : w.drewN nq = w0 at *
    clear hw0
    go_wp2_with fail
    refine (rIsBlank_any _ _).mono ?_
    rintro e w1 ⟨rfl, rfl⟩
    rw [HC.out]
    go_wp2_with fail
    refine (rIsComment_any HT.out.rl hi).mono ?_
    rintro e w1 ⟨rfl, g1⟩
    rw [HA.out.1]
    have HT1 := Lib.hid (HT.out.gbN g1)
    have c1 := HT1.out.rl.c1
    have c2 := HT1.out.rl.c2
    go_wp2_with fail
    refine (rFirst_any HT1.out.rl).mono ?_
    rintro e w2 ⟨rfl, g2⟩
    rw [HA.out.2]
    have HT2 := Lib.hid (HT1.out.gbN g2)
    have d1 := HT2.out.rl.c1
    go_wp2_with fail
    refine (rEnd_any HT2.out.rl i (by omega)).mono ?_
    rintro e w3 ⟨rfl, g3⟩
    have HT3 := Lib.hid (HT2.out.gbN g3)
    go_wp2_with fail
    refine (rSkips_any HT3.out.rl).mono ?_
    rintro e w4 ⟨rfl, h4, g4⟩
    have HE := Lib.hid (And.intro h4 g4)
    clear h4 g4
    go_wp2
    go_end0
    exact com_fin HM.out HT3.out.below (Nat.le_of_lt HT3.out.rl.lt) HE.out.2 HE.out.1

theorem semi_fin {w W w' : World} {line : Bool} {j : Nat} (hM : lexStep s i line = if goesOn s (skipM s (i + 1)) then
      match commentM s (skipM s (i + 1)) with
      | some k => .bad k
      | none => .again (nextLine s (skipM s (i + 1))) line
    else .bad i) (hg : goesOn s (skipM s (i + 1)) = true) (hj : j = nextLine s (i + 1)) (hB : Below b w W) (hw : b ≤ W.heap.size) (g : W.grownBy w' (some b)) (h : Rl w' b s j line (wrongOf s (i + 1) (lineEndM s (i + 1))) ov pre) : RTok w b s (lexStep s i line) pre (.returned (.tuple #[])) w' := by
  rw [hM, if_pos hg, skip_comment, skip_nextLine]
  have e := wrongOf_end s (i + 1)
  rw [e] at h
  subst hj
  cases hc : commentM s (i + 1) with
  | some k => rw [hc] at h; exact rTok_bad rfl (hB.trans (below_some g hw)) h
  | none => rw [hc] at h; exact rTok_again rfl (hB.trans (below_some g hw)) h

set_option maxRecDepth 20000 in
set_option maxHeartbeats 4000000 in
theorem rStep_semi (h : Rl w b s i line (-1) ov pre) (hi : i < s.length) (hb3 : cls 3 (bAt s i) = false) (hcom : ((bAt s i == 42 && !line) || ampAt s i) = false) (h59 : bAt s i = 59) (hgo : goesOn s (skipM s (i + 1)) = true) :
    Calls Tryz.prog 91 #[.pointer (some ⟨b, 0, none⟩)] w (RTok w b s (lexStep s i line) pre) := by
  have hb := h.lt
  have hf := h.few
  have c0 := h.c0
  have c1 := h.c1
  have hg := fun h => ba_at s i h hi
  have h10 : bAt s i ≠ 10 := by rw [h59]; decide
  have HM := Lib.hid (step_semi hi h10 hb3 hcom h59)
  have ha : ampAt s i = false := by rw [Bool.or_eq_false_iff] at hcom; exact hcom.2
  rw [h59] at hg hb3
  have HH := Lib.hid h
  have HC := Lib.hid (And.intro hb3 (And.intro ha hgo))
  clear h hb3 h10 hcom ha hgo
  have hle : lineEndM s (i + 1) ≤ s.length := runM_le (by omega)
  go_enter Tryz.func91, Tryz.ntmps91
  go_wp2_with fail
  go_quiet (fail)
  have HT := Lib.hid (show TkS w b s i _ ov pre (w.drewN nq) from ⟨HH.out.drewN nq, below_none (gb_drewN (gb_refl _ _) _) (by omega)⟩)
  clear c0 c1 hg
  generalize hw0 : w.drewN nq = w0 at *
  clear hw0
  have h59' : ((59 : UInt8).toNat : Int) = 59 := rfl
  go_wp2_with fail
  refine (rIsBlank_any 59 _).mono ?_
  rintro e w1 ⟨rfl, rfl⟩
  rw [HC.out.1]
  go_wp2_with fail
  refine (rIsComment_any HT.out.rl hi).mono ?_
  rintro e w1 ⟨rfl, g1⟩
  rw [HC.out.2.1]
  have HT1 := Lib.hid (HT.out.gbN g1)
  go_wp2_with fail
  refine (rGoesOn_any HT1.out.rl hi).mono ?_
  rintro e w2 ⟨rfl, g2⟩
  rw [HC.out.2.2]
  have HT2 := Lib.hid (HT1.out.gbN g2)
  have c1 := HT2.out.rl.c1
  have f1 := HT2.out.rl.fr 1
  have HG := Lib.hid (HT2.out.rl.go _ (i + 1) (Int.natCast_succ i).symm (by omega))
  have hb2 := HT2.out.rl.lt
  go_wp2_with fail
  refine (rEnd_any HG.out (i + 1) (by omega)).mono ?_
  rintro e w3 ⟨rfl, g3⟩
  have HG3 := Lib.hid (HG.out.gbN g3)
  go_wp2_with fail
  refine (rSkips_any HG3.out).mono ?_
  rintro e w4 ⟨rfl, h4, g4⟩
  have gA : w2.grownBy w4 (some b) := gb_trans (gb_trans (gb_set (gb_refl _ _) _ _ (.inl rfl)) (gb_none g3)) g4
  have HE := Lib.hid (And.intro h4 gA)
  have d0 := h4.c0
  have d1 := h4.c1
  have hb4 := h4.lt
  clear h4 g4 gA
  by_cases hl : lineEndM s (i + 1) < s.length
  · have hl1 : decide (lineEndM s (i + 1) < s.length) = true := by simpa using hl
    go_wp2_with fail
    go_quiet (fail)
    have f1 := (HE.out.1.drewN nq).fr 1
    have e1 := (HE.out.1.drewN nq).c1
    have HJ := Lib.hid (show lineEndM s (i + 1) + 1 = nextLine s (i + 1) by unfold nextLine; rw [if_pos hl])
    have HR := Lib.hid ((HE.out.1.drewN nq).go _ (lineEndM s (i + 1) + 1) (Int.natCast_succ _).symm (by omega))
    go_wp2
    go_end0
    exact semi_fin HM.out HC.out.2.2 HJ.out HT2.out.below (by omega) (gb_set (gb_drewN HE.out.2 _) _ _ (.inl rfl)) HR.out
  · have hl1 : decide (lineEndM s (i + 1) < s.length) = false := by simpa using hl
    have HJ := Lib.hid (show lineEndM s (i + 1) = nextLine s (i + 1) by unfold nextLine; rw [if_neg hl])
    go_wp2_with fail
    go_quiet (fail)
    go_wp2
    go_end0
    exact semi_fin HM.out HC.out.2.2 HJ.out HT2.out.below (by omega) (gb_drewN HE.out.2 _) (HE.out.1.drewN nq)

set_option maxRecDepth 20000 in
set_option maxHeartbeats 4000000 in
theorem rStep_tok (h : Rl w b s i line (-1) ov pre) (hi : i < s.length) (hc : pre.length ≤ 100000) (h10 : bAt s i ≠ 10) (hb3 : cls 3 (bAt s i) = false) (hcom : ((bAt s i == 42 && !line) || ampAt s i) = false)
    (hsemi : bAt s i = 59 → goesOn s (skipM s (i + 1)) = false) :
    Calls Tryz.prog 91 #[.pointer (some ⟨b, 0, none⟩)] w (RTok w b s (lexStep s i line) pre) := by
  have hM : lexStep s i line = tokenM s i := by
    by_cases h59 : bAt s i = 59
    · rw [step_semi hi h10 hb3 hcom h59, if_neg (by rw [hsemi h59]; simp), tokenM_semi hi h59]
    · exact step_tok hi h10 hb3 hcom h59
  rw [hM]
  have hb := h.lt
  have hf := h.few
  have c0 := h.c0
  have c1 := h.c1
  have hg := fun h => ba_at s i h hi
  have h10' : (((bAt s i).toNat : Int) == 10) = false := by
    rw [show (((bAt s i).toNat : Int) == 10) = (bAt s i == 10) from u8i (n := 10) (by decide)]
    simpa using h10
  rw [Bool.or_eq_false_iff] at hcom
  have HH := Lib.hid h
  have HC := Lib.hid (And.intro hb3 (And.intro hcom.2 hsemi))
  have h42 : (((bAt s i).toNat : Int) == 42) = false ∨ line = true := by
    rw [show (((bAt s i).toNat : Int) == 42) = (bAt s i == 42) from u8i (n := 42) (by decide)]
    have := hcom.1
    cases hx : bAt s i == 42 with
    | false => exact .inl rfl
    | true => rw [hx] at this; simp at this; exact .inr this
  have h59 : (((bAt s i).toNat : Int) == 59) = (bAt s i == 59) := u8i (n := 59) (by decide)
  clear h hb3 h10 hcom hsemi hM
  cases hx : bAt s i == 59 with
  | true =>
    have hx2 : bAt s i = 59 := by simpa using hx
    rw [hx] at h59
    have h42' : (((bAt s i).toNat : Int) == 42) = false := by rw [hx2]; rfl
    have HS := Lib.hid (HC.out.2.2 hx2)
    clear h42 hx hx2
    go_enter Tryz.func91, Tryz.ntmps91
    go_wp2_with fail
    go_quiet (fail)
    have HT := Lib.hid (show TkS w b s i _ ov pre (w.drewN nq) from ⟨HH.out.drewN nq, below_none (gb_drewN (gb_refl _ _) _) (by omega)⟩)
    clear c0 c1 hg
    generalize hw0 : w.drewN nq = w0 at *
    clear hw0
    go_wp2_with fail
    refine (rIsBlank_any _ _).mono ?_
    rintro e w1 ⟨rfl, rfl⟩
    rw [HC.out.1]
    go_wp2_with fail
    refine (rIsComment_any HT.out.rl hi).mono ?_
    rintro e w1 ⟨rfl, g1⟩
    rw [HC.out.2.1]
    have HT1 := Lib.hid (HT.out.gbN g1)
    go_wp2_with fail
    refine (rGoesOn_any HT1.out.rl hi).mono ?_
    rintro e w2 ⟨rfl, g2⟩
    rw [HS.out]
    have HT2 := Lib.hid (HT1.out.gbN g2)
    go_wp2_with fail
    refine (rToken_any HT2.out.rl hi hc).mono ?_
    rintro e w3 h3
    obtain ⟨rfl, _⟩ := id h3
    have H3 := Lib.hid h3
    clear h3
    go_wp2
    go_end0
    exact rTok_below HT2.out.below H3.out
  | false =>
    rw [hx] at h59
    clear hx
    have h42c : (((bAt s i).toNat : Int) == 42) = false ∨ ((((bAt s i).toNat : Int) == 42) = true ∧ line = true) := by
      cases hq : (((bAt s i).toNat : Int) == 42) with
      | false => exact .inl rfl
      | true => rw [hq] at h42; rcases h42 with h | h; cases h; exact .inr ⟨rfl, h⟩
    clear h42
    rcases h42c with h42 | ⟨h42, rfl⟩
    · skip
      go_enter Tryz.func91, Tryz.ntmps91
      go_wp2_with fail
      go_quiet (fail)
      have HT := Lib.hid (show TkS w b s i _ ov pre (w.drewN nq) from ⟨HH.out.drewN nq, below_none (gb_drewN (gb_refl _ _) _) (by omega)⟩)
      clear c0 c1 hg
      generalize hw0 : w.drewN nq = w0 at *
      clear hw0
      go_wp2_with fail
      refine (rIsBlank_any _ _).mono ?_
      rintro e w1 ⟨rfl, rfl⟩
      rw [HC.out.1]
      go_wp2_with fail
      refine (rIsComment_any HT.out.rl hi).mono ?_
      rintro e w1 ⟨rfl, g1⟩
      rw [HC.out.2.1]
      have HT1 := Lib.hid (HT.out.gbN g1)
      go_wp2_with fail
      refine (rToken_any HT1.out.rl hi hc).mono ?_
      rintro e w3 h3
      obtain ⟨rfl, _⟩ := id h3
      have H3 := Lib.hid h3
      clear h3
      go_wp2
      go_end0
      exact rTok_below HT1.out.below H3.out
    · skip
      go_enter Tryz.func91, Tryz.ntmps91
      go_wp2_with fail
      go_quiet (fail)
      have HT := Lib.hid (show TkS w b s i _ ov pre (w.drewN nq) from ⟨HH.out.drewN nq, below_none (gb_drewN (gb_refl _ _) _) (by omega)⟩)
      clear c0 c1 hg
      generalize hw0 : w.drewN nq = w0 at *
      clear hw0
      go_wp2_with fail
      refine (rIsBlank_any _ _).mono ?_
      rintro e w1 ⟨rfl, rfl⟩
      rw [HC.out.1]
      go_wp2_with fail
      refine (rIsComment_any HT.out.rl hi).mono ?_
      rintro e w1 ⟨rfl, g1⟩
      rw [HC.out.2.1]
      have HT1 := Lib.hid (HT.out.gbN g1)
      have c2 := HT1.out.rl.c2
      go_wp2_with fail
      refine (rToken_any HT1.out.rl hi hc).mono ?_
      rintro e w3 h3
      obtain ⟨rfl, _⟩ := id h3
      have H3 := Lib.hid h3
      clear h3
      go_wp2
      go_end0
      exact rTok_below HT1.out.below H3.out

theorem rStep_any (h : Rl w b s i line (-1) ov pre) (hi : i < s.length) (hI : InvF s i line) (hc : pre.length ≤ 100000) :
    Calls Tryz.prog 91 #[.pointer (some ⟨b, 0, none⟩)] w (RTok w b s (lexStep s i line) pre) := by
  by_cases h10 : bAt s i = 10
  · exact rStep_nl h hi hc h10
  cases hb3 : cls 3 (bAt s i) with
  | true => exact rStep_blank h hi hb3
  | false =>
    cases hcom : ((bAt s i == 42 && !line) || ampAt s i) with
    | true => exact rStep_com h hi hI h10 hb3 hcom
    | false =>
      cases hgo : goesOn s (skipM s (i + 1)) with
      | false => exact rStep_tok h hi hc h10 hb3 hcom (fun _ => hgo)
      | true =>
        by_cases h59 : bAt s i = 59
        · exact rStep_semi h hi hb3 hcom h59 hgo
        · exact rStep_tok h hi hc h10 hb3 hcom (fun e => absurd e h59)
end

end Go.Proofs.YtmcajbhljbbglaaGreatDoor
