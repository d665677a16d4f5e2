/-
  The lexer: short, end, continues.
  Plain laws: strings.ToUpper against capitals byte by byte, where what comes out is to be a word of ASCII of the same length.
  Contracts of the parser: levels, operator, binary. Plain laws of a map of texts that a literal writes.
-/
import Derived.Test.YtmcajbhljbbglaaGreatDoorSs04
import Derived.Test.YtmcajbhljbbglaaGreatDoorSs02
import Derived.Shelf.Strings.CaseAny
import Derived.Lib.MapLaws
import Derived.MapKept
import Derived.WideMake
set_option linter.all false
set_option linter.unusedVariables false
set_option linter.unusedSimpArgs false
set_option linter.unnecessarySimpa false
set_option linter.constructorNameAsVariable false
set_option linter.deprecated false

namespace Go.Proofs.YtmcajbhljbbglaaGreatDoor
open Go.RowKit

abbrev tok0 : Value := .agg #[.int .i64 0, .int .i64 0, str []]

def ShortPost (w : World) (b : Nat) (s : Bs) (i : Nat) (line begun : Bool) (bad : Int) (t : Tok) (most : Nat) (e : Ending) (w' : World) : Prop :=
  w.grownBy w' (some b) ∧ if most < t.text.length then e = .returned (.bool false) ∧ Sc w' b s i line begun t.pos else e = .returned (.bool true) ∧ Sc w' b s i line begun bad

set_option maxHeartbeats 800000 in
theorem short_any {w : World} {b : Nat} {s : Bs} {i : Nat} {line begun : Bool} {bad : Int} (h : Sc w b s i line begun bad) (t : Tok) (most : Nat) :
    Calls Tryz.prog 160 #[.pointer (some ⟨b, 0, none⟩), tokV t, .int .i64 most] w (ShortPost w b s i line begun bad t most) := by
  have hb := h.lt
  have f1 := h.fr 260
  have c260 := h.c260
  by_cases hl : most < t.text.length
  · have HP := Lib.hid hl
    have hl1 : decide (most < t.text.length) = true := by simpa using hl
    clear hl
    go_enter Tryz.func160, Tryz.ntmps160
    go_wp2
    go_ret
    exact ⟨(by repeat (first | (with_reducible exact gb_refl _ _) | (with_reducible assumption) | (with_reducible exact gb_none (by assumption)) | (with_reducible refine gb_alloc ?_ _) | (with_reducible refine gb_drew ?_) | (with_reducible refine gb_drewN ?_ _) | ((with_reducible refine gb_set ?_ _ _ ?h2); case h2 => first | exact .inl rfl | exact .inr (Nat.le_refl _) | exact .inr (by simp <;> omega)) | (with_reducible refine gb_sub ?_ (by assumption)) | (with_reducible refine gb_trans ?_ (by assumption)))), by rw [if_pos HP.out]; exact ⟨rfl, (h.setBad _).alloc _⟩⟩
  · have HP := Lib.hid hl
    have hl1 : decide (most < t.text.length) = false := by simpa using hl
    clear hl
    go_enter Tryz.func160, Tryz.ntmps160
    go_wp2
    go_ret
    exact ⟨(by repeat (first | (with_reducible exact gb_refl _ _) | (with_reducible assumption) | (with_reducible exact gb_none (by assumption)) | (with_reducible refine gb_alloc ?_ _) | (with_reducible refine gb_drew ?_) | (with_reducible refine gb_drewN ?_ _) | ((with_reducible refine gb_set ?_ _ _ ?h2); case h2 => first | exact .inl rfl | exact .inr (Nat.le_refl _) | exact .inr (by simp <;> omega)) | (with_reducible refine gb_sub ?_ (by assumption)) | (with_reducible refine gb_trans ?_ (by assumption)))), by rw [if_neg HP.out]; exact ⟨rfl, h.alloc _⟩⟩

/-- what 'end' gives: a token and whether it is one, or the source has ended -/
def EndPost (w : World) (b : Nat) (s : Bs) (i : Nat) (line : Bool) (bad : Int) (e : Ending) (w' : World) : Prop :=
  w.grownBy w' (some b) ∧ Sc w' b s (if i < s.length then i + 1 else i) false false bad ∧
    e = .returned (.tuple #[if line then tokV ⟨5, i, []⟩ else tok0, .bool (line || !decide (i < s.length))])

set_option maxHeartbeats 1600000 in
theorem lexEnd_any {w : World} {b : Nat} {s : Bs} {i : Nat} {line : Bool} {bad : Int} (h : Sc w b s i line line bad) :
    Calls Tryz.prog 110 #[.pointer (some ⟨b, 0, none⟩)] w (EndPost w b s i line bad) := by
  have hb := h.lt
  have hf := h.few
  have c0 := h.c0
  have c1 := h.c1
  have c258 := h.c258
  have c259 := h.c259
  have f1 := h.fr 1
  have f258 := h.fr 258
  have f259 := h.fr 259
  by_cases hl : i < s.length
  · have HP := Lib.hid hl
    have hl1 : ((i : Int) == (s.length : Int)) = false := by simp; omega
    cases line with
    | true =>
      go_enter Tryz.func110, Tryz.ntmps110
      go_wp2
      go_quiet (fail)
      go_wp2
      refine bodyPost_ret (v := .tuple #[tokV ⟨5, i, []⟩, .bool true]) (by simp [results, Tryz.results110, go_sem]) rfl ⟨(by repeat (first | (with_reducible exact gb_refl _ _) | (with_reducible assumption) | (with_reducible exact gb_none (by assumption)) | (with_reducible refine gb_alloc ?_ _) | (with_reducible refine gb_drew ?_) | (with_reducible refine gb_drewN ?_ _) | ((with_reducible refine gb_set ?_ _ _ ?h2); case h2 => first | exact .inl rfl | exact .inr (Nat.le_refl _) | exact .inr (by simp <;> omega)) | (with_reducible refine gb_sub ?_ (by assumption)) | (with_reducible refine gb_trans ?_ (by assumption)))), ?_, by simp⟩
      rw [if_pos HP.out]
      exact (by repeat (first | (with_reducible assumption) | (with_reducible apply Sc.alloc) | (with_reducible apply Sc.drew) | (with_reducible apply Sc.drewN) | (with_reducible apply Sc.setLine) | (with_reducible apply Sc.setBegun) | (with_reducible apply Sc.setBad) | (with_reducible apply Sc.go) | (with_reducible apply Sc.set_other) | omega | (simp <;> omega)))
    | false =>
      go_enter Tryz.func110, Tryz.ntmps110
      go_wp2
      go_quiet (fail)
      go_wp2
      refine bodyPost_ret (v := .tuple #[tok0, .bool false]) (by simp [results, Tryz.results110, go_sem]) rfl ⟨(by repeat (first | (with_reducible exact gb_refl _ _) | (with_reducible assumption) | (with_reducible exact gb_none (by assumption)) | (with_reducible refine gb_alloc ?_ _) | (with_reducible refine gb_drew ?_) | (with_reducible refine gb_drewN ?_ _) | ((with_reducible refine gb_set ?_ _ _ ?h2); case h2 => first | exact .inl rfl | exact .inr (Nat.le_refl _) | exact .inr (by simp <;> omega)) | (with_reducible refine gb_sub ?_ (by assumption)) | (with_reducible refine gb_trans ?_ (by assumption)))), ?_, by simp [HP.out]⟩
      rw [if_pos HP.out]
      exact (by repeat (first | (with_reducible assumption) | (with_reducible apply Sc.alloc) | (with_reducible apply Sc.drew) | (with_reducible apply Sc.drewN) | (with_reducible apply Sc.setLine) | (with_reducible apply Sc.setBegun) | (with_reducible apply Sc.setBad) | (with_reducible apply Sc.go) | (with_reducible apply Sc.set_other) | omega | (simp <;> omega)))
  · have HP := Lib.hid hl
    have hl1 : ((i : Int) == (s.length : Int)) = true := by have := h.le; simp; omega
    cases line with
    | true =>
      go_enter Tryz.func110, Tryz.ntmps110
      go_wp2
      go_quiet (fail)
      go_wp2
      refine bodyPost_ret (v := .tuple #[tokV ⟨5, i, []⟩, .bool true]) (by simp [results, Tryz.results110, go_sem]) rfl ⟨(by repeat (first | (with_reducible exact gb_refl _ _) | (with_reducible assumption) | (with_reducible exact gb_none (by assumption)) | (with_reducible refine gb_alloc ?_ _) | (with_reducible refine gb_drew ?_) | (with_reducible refine gb_drewN ?_ _) | ((with_reducible refine gb_set ?_ _ _ ?h2); case h2 => first | exact .inl rfl | exact .inr (Nat.le_refl _) | exact .inr (by simp <;> omega)) | (with_reducible refine gb_sub ?_ (by assumption)) | (with_reducible refine gb_trans ?_ (by assumption)))), ?_, by simp⟩
      rw [if_neg HP.out]
      exact (by repeat (first | (with_reducible assumption) | (with_reducible apply Sc.alloc) | (with_reducible apply Sc.drew) | (with_reducible apply Sc.drewN) | (with_reducible apply Sc.setLine) | (with_reducible apply Sc.setBegun) | (with_reducible apply Sc.setBad) | (with_reducible apply Sc.go) | (with_reducible apply Sc.set_other) | omega | (simp <;> omega)))
    | false =>
      go_enter Tryz.func110, Tryz.ntmps110
      go_wp2
      go_quiet (fail)
      go_wp2
      refine bodyPost_ret (v := .tuple #[tok0, .bool true]) (by simp [results, Tryz.results110, go_sem]) rfl ⟨(by repeat (first | (with_reducible exact gb_refl _ _) | (with_reducible assumption) | (with_reducible exact gb_none (by assumption)) | (with_reducible refine gb_alloc ?_ _) | (with_reducible refine gb_drew ?_) | (with_reducible refine gb_drewN ?_ _) | ((with_reducible refine gb_set ?_ _ _ ?h2); case h2 => first | exact .inl rfl | exact .inr (Nat.le_refl _) | exact .inr (by simp <;> omega)) | (with_reducible refine gb_sub ?_ (by assumption)) | (with_reducible refine gb_trans ?_ (by assumption)))), ?_, by simp [HP.out]⟩
      rw [if_neg HP.out]
      exact (by repeat (first | (with_reducible assumption) | (with_reducible apply Sc.alloc) | (with_reducible apply Sc.drew) | (with_reducible apply Sc.drewN) | (with_reducible apply Sc.setLine) | (with_reducible apply Sc.setBegun) | (with_reducible apply Sc.setBad) | (with_reducible apply Sc.go) | (with_reducible apply Sc.set_other) | omega | (simp <;> omega)))

/-- what 'continues' gives: whether the line goes on, and whether the rest of the line is right -/
def ContPost (w : World) (b : Nat) (s : Bs) (i : Nat) (line begun : Bool) (bad : Int) (e : Ending) (w' : World) : Prop :=
  w.grownBy w' (some b) ∧ if goesOn s (skipM s (i + 1)) then (match commentM s (skipM s (i + 1)) with
      | some k => e = .returned (.tuple #[.bool true, .bool false]) ∧ ∃ j, Sc w' b s j line begun k
      | none => e = .returned (.tuple #[.bool true, .bool true]) ∧ Sc w' b s (nextLine s (skipM s (i + 1))) line begun bad)
    else e = .returned (.tuple #[.bool false, .bool true]) ∧ Sc w' b s i line begun bad

/-- 'HasPrefix' of the rest of a source -/
theorem prefix_any (s : Bs) (k : Nat) (p : Bs) {r : Bool} (hr : p.isPrefixOf (s.drop k) = r) (w : World) :
    Calls Tryz.prog 111 #[.string ((⟨s.toArray⟩ : ByteArray).extract k s.length), .string ⟨p.toArray⟩] w fun e w' => e = .returned (.bool r) ∧ w = w' := by
  subst hr
  refine (Tryz.strings_HasPrefix _ _ _).mono ?_
  rintro e w' ⟨rfl, rfl⟩
  rw [ba_tail]
  exact ⟨rfl, rfl⟩

section
variable {w w' : World} {b : Nat} {s : Bs} {i k j q : Nat} {line begun : Bool} {bad : Int}
theorem contPost_ok (hk : k = skipM s (i + 1)) (hg : goesOn s k = true) (hc : commentM s k = none) (hj : nextLine s k = j) (g : w.grownBy w' (some b)) (hs : Sc w' b s j line begun bad) :
    ContPost w b s i line begun bad (.returned (.tuple #[.bool true, .bool true])) w' := by
  subst hk hj
  refine ⟨g, ?_⟩
  rw [if_pos hg, hc]
  exact ⟨rfl, hs⟩
theorem contPost_bad (hk : k = skipM s (i + 1)) (hg : goesOn s k = true) (hc : commentM s k = some q) (g : w.grownBy w' (some b)) (hs : Sc w' b s j line begun q) :
    ContPost w b s i line begun bad (.returned (.tuple #[.bool true, .bool false])) w' := by
  subst hk
  refine ⟨g, ?_⟩
  rw [if_pos hg, hc]
  exact ⟨rfl, j, hs⟩
theorem contPost_no (hk : k = skipM s (i + 1)) (hg : goesOn s k = false) (g : w.grownBy w' (some b)) (hs : Sc w' b s i line begun bad) :
    ContPost w b s i line begun bad (.returned (.tuple #[.bool false, .bool true])) w' := by
  subst hk
  refine ⟨g, ?_⟩
  rw [if_neg (by rw [hg]; simp)]
  exact ⟨rfl, hs⟩
end

set_option maxHeartbeats 1600000 in
theorem continues_any {w : World} {b : Nat} {s : Bs} {i : Nat} {line begun : Bool} {bad : Int} (h : Sc w b s i line begun bad) (hi : i < s.length) :
    Calls Tryz.prog 113 #[.pointer (some ⟨b, 0, none⟩)] w (ContPost w b s i line begun bad) := by
  have c0 := h.c0
  have c1 := h.c1
  have hf := h.few
  have hb := h.lt
  go_enter Tryz.func113, Tryz.ntmps113
  go_wp2_with fail
  go_loopg [4] (s.length - (i + 1)) (fun g v4 wr => ∃ k : Nat, k + g = s.length ∧ v4 = .int .i64 k ∧ Sc wr b s i line begun bad ∧ skipM s k = skipM s (i + 1) ∧ w.grownBy wr none)
  case atStart => exact ⟨i + 1, by omega, by simp, h, rfl, gb_refl _ _⟩
  case round =>
    obtain ⟨k, hk, rfl, hs, hq, g⟩ := hrel
    have HQ := Lib.hid hq
    clear hq c0 c1 hb
    have hb := hs.lt
    cases hc : (decide (k < s.length) && cls 3 (bAt s k)) with
    | true =>
      simp only [Bool.and_eq_true, decide_eq_true_eq] at hc
      cases gk with
      | zero => omega
      | succ gk =>
      have HC := Lib.hid hc.2
      have hkl := hc.1
      clear hc h
      go_wp2_with fail
      refine (is_cls hs k 3 (r := true) (by simp [hkl, HC.out])).mono ?_
      rintro e w1 ⟨rfl, g1⟩
      have hs1 := hs.gbN g1
      go_wp2
      go_roundg gk
      case measure => omega
      case rel => exact ⟨k + 1, by omega, by simp, hs1, by rw [← HQ.out]; exact (runM_step hkl HC.out).symm, gb_sub g g1⟩
    | false =>
      have HC := Lib.hid hc
      clear hc h
      go_wp2_with fail
      refine (is_cls hs k 3 (r := false) HC.out).mono ?_
      rintro e w1 ⟨rfl, g1⟩
      have hs1 := hs.gbN g1
      have hk2 : skipM s k = k := by
        have h2 := HC.out
        by_cases hkl : k < s.length
        · exact runM_stop hkl (by simpa [hkl] using h2)
        · exact runM_end (by omega)
      have HK := Lib.hid (hk2.symm.trans HQ.out)
      clear hk2
      have c0 := hs1.c0
      have c1 := hs1.c1
      have f1 := hs1.fr 1
      have hb1 := hs1.lt
      by_cases hkl : k < s.length
      · have hl1 : ((k : Int) == (s.length : Int)) = false := by simp; omega
        have hg := fun h => ba_at s k h hkl
        have hkl2 : k ≤ s.length := by omega
        cases h10 : ((bAt s k).toNat : Int) == 10 with
        | true =>
          have HG := Lib.hid (show goesOn s k = true by
            have h2 : bAt s k = 10 := by simp at h10; apply UInt8.toNat_inj.1; simpa using (by omega : (bAt s k).toNat = 10)
            simp [goesOn, h2])
          have hs2 := hs1.go (k : Int) k rfl hkl2
          go_wp2_with fail
          refine (comment_any hs2).mono ?_
          rintro e w2 ⟨g2, h2⟩
          have g12 : w1.grownBy w2 (some b) := gb_trans (gb_set (gb_refl _ _) _ _ (.inl rfl)) g2
          cases hcm : commentM s k with
          | some j =>
            have HM := Lib.hid hcm
            rw [hcm] at h2
            clear hcm
            obtain ⟨rfl, j', hs3⟩ := h2
            go_wp2
            exact bodyPost_ret (v := .tuple #[.bool true, .bool false]) (by simp [results, Tryz.results113, go_sem]) rfl (contPost_bad HK.out HG.out HM.out (gb_trans (gb_none (gb_sub g g1)) g12) hs3)
          | none =>
            have HM := Lib.hid hcm
            rw [hcm] at h2
            clear hcm
            obtain ⟨rfl, hs3⟩ := h2
            have d0 := hs3.c0
            have d1 := hs3.c1
            have e1 := hs3.fr 1
            have hb3 := hs3.lt
            by_cases hle : lineEndM s k < s.length
            · have hl3 : decide (lineEndM s k < s.length) = true := by simpa using hle
              have HN := Lib.hid (show nextLine s k = lineEndM s k + 1 by unfold nextLine; rw [if_pos hle])
              generalize lineEndM s k = q at *
              go_wp2
              go_quiet (fail)
              go_wp2
              exact bodyPost_ret (v := .tuple #[.bool true, .bool true]) (by simp [results, Tryz.results113, go_sem]) rfl (contPost_ok (j := q + 1) HK.out HG.out HM.out HN.out (gb_set (gb_drewN (gb_trans (gb_none (gb_sub g g1)) g12) _) _ _ (.inl rfl)) (by repeat (first | (with_reducible assumption) | (with_reducible apply Sc.alloc) | (with_reducible apply Sc.drew) | (with_reducible apply Sc.drewN) | (with_reducible apply Sc.setLine) | (with_reducible apply Sc.setBegun) | (with_reducible apply Sc.setBad) | (with_reducible apply Sc.go) | (with_reducible apply Sc.set_other) | omega | (simp <;> omega))))
            · have hl3 : decide (lineEndM s k < s.length) = false := by simpa using hle
              have HN := Lib.hid (show nextLine s k = lineEndM s k by unfold nextLine; rw [if_neg hle])
              generalize lineEndM s k = q at *
              go_wp2
              go_quiet (fail)
              go_wp2
              exact bodyPost_ret (v := .tuple #[.bool true, .bool true]) (by simp [results, Tryz.results113, go_sem]) rfl (contPost_ok (j := q) HK.out HG.out HM.out HN.out (gb_drewN (gb_trans (gb_none (gb_sub g g1)) g12) _) (by repeat (first | (with_reducible assumption) | (with_reducible apply Sc.alloc) | (with_reducible apply Sc.drew) | (with_reducible apply Sc.drewN) | (with_reducible apply Sc.setLine) | (with_reducible apply Sc.setBegun) | (with_reducible apply Sc.setBad) | (with_reducible apply Sc.go) | (with_reducible apply Sc.set_other) | omega | (simp <;> omega))))
        | false =>
          cases ha : ampAt s k with
          | true =>
            have HG := Lib.hid (show goesOn s k = true by simp [goesOn, ha])
            have hkI : decide ((k : Int) ≤ s.length) = true := by simp; omega
            go_wp2_with fail
            refine (prefix_any s k [38, 38] (r := true) ha _).mono ?_
            rintro e w0 ⟨rfl, rfl⟩
            have hs2 := hs1.go (k : Int) k rfl hkl2
            go_wp2_with fail
            refine (comment_any hs2).mono ?_
            rintro e w2 ⟨g2, h2⟩
            have g12 : w1.grownBy w2 (some b) := gb_trans (gb_set (gb_refl _ _) _ _ (.inl rfl)) g2
            cases hcm : commentM s k with
            | some j =>
              have HM := Lib.hid hcm
              rw [hcm] at h2
              clear hcm
              obtain ⟨rfl, j', hs3⟩ := h2
              go_wp2
              exact bodyPost_ret (v := .tuple #[.bool true, .bool false]) (by simp [results, Tryz.results113, go_sem]) rfl (contPost_bad HK.out HG.out HM.out (gb_trans (gb_none (gb_sub g g1)) g12) hs3)
            | none =>
              have HM := Lib.hid hcm
              rw [hcm] at h2
              clear hcm
              obtain ⟨rfl, hs3⟩ := h2
              have d0 := hs3.c0
              have d1 := hs3.c1
              have e1 := hs3.fr 1
              have hb3 := hs3.lt
              by_cases hle : lineEndM s k < s.length
              · have hl3 : decide (lineEndM s k < s.length) = true := by simpa using hle
                have HN := Lib.hid (show nextLine s k = lineEndM s k + 1 by unfold nextLine; rw [if_pos hle])
                generalize lineEndM s k = q at *
                go_wp2
                go_quiet (fail)
                go_wp2
                exact bodyPost_ret (v := .tuple #[.bool true, .bool true]) (by simp [results, Tryz.results113, go_sem]) rfl (contPost_ok (j := q + 1) HK.out HG.out HM.out HN.out (gb_set (gb_drewN (gb_trans (gb_none (gb_sub g g1)) g12) _) _ _ (.inl rfl)) (by repeat (first | (with_reducible assumption) | (with_reducible apply Sc.alloc) | (with_reducible apply Sc.drew) | (with_reducible apply Sc.drewN) | (with_reducible apply Sc.setLine) | (with_reducible apply Sc.setBegun) | (with_reducible apply Sc.setBad) | (with_reducible apply Sc.go) | (with_reducible apply Sc.set_other) | omega | (simp <;> omega))))
              · have hl3 : decide (lineEndM s k < s.length) = false := by simpa using hle
                have HN := Lib.hid (show nextLine s k = lineEndM s k by unfold nextLine; rw [if_neg hle])
                generalize lineEndM s k = q at *
                go_wp2
                go_quiet (fail)
                go_wp2
                exact bodyPost_ret (v := .tuple #[.bool true, .bool true]) (by simp [results, Tryz.results113, go_sem]) rfl (contPost_ok (j := q) HK.out HG.out HM.out HN.out (gb_drewN (gb_trans (gb_none (gb_sub g g1)) g12) _) (by repeat (first | (with_reducible assumption) | (with_reducible apply Sc.alloc) | (with_reducible apply Sc.drew) | (with_reducible apply Sc.drewN) | (with_reducible apply Sc.setLine) | (with_reducible apply Sc.setBegun) | (with_reducible apply Sc.setBad) | (with_reducible apply Sc.go) | (with_reducible apply Sc.set_other) | omega | (simp <;> omega))))
          | false =>
            have HG := Lib.hid (show goesOn s k = false by
              have h2 : bAt s k ≠ 10 := by rintro e; rw [e] at h10; simp at h10
              simp [goesOn, ha, h2]; omega)
            have hkI : decide ((k : Int) ≤ s.length) = true := by simp; omega
            go_wp2_with fail
            refine (prefix_any s k [38, 38] (r := false) ha _).mono ?_
            rintro e w0 ⟨rfl, rfl⟩
            go_wp2
            exact bodyPost_ret (v := .tuple #[.bool false, .bool true]) (by simp [results, Tryz.results113, go_sem]) rfl (contPost_no HK.out HG.out (gb_none (gb_sub g g1)) hs1)
      · have hl1 : ((k : Int) == (s.length : Int)) = true := by simp; omega
        have hkl2 : k ≤ s.length := by omega
        have HG := Lib.hid (show goesOn s k = true by simp [goesOn]; left; omega)
        have hs2 := hs1.go (k : Int) k rfl hkl2
        go_wp2_with fail
        refine (comment_any hs2).mono ?_
        rintro e w2 ⟨g2, h2⟩
        have g12 : w1.grownBy w2 (some b) := gb_trans (gb_set (gb_refl _ _) _ _ (.inl rfl)) g2
        cases hcm : commentM s k with
        | some j =>
          have HM := Lib.hid hcm
          rw [hcm] at h2
          clear hcm
          obtain ⟨rfl, j', hs3⟩ := h2
          go_wp2
          exact bodyPost_ret (v := .tuple #[.bool true, .bool false]) (by simp [results, Tryz.results113, go_sem]) rfl (contPost_bad HK.out HG.out HM.out (gb_trans (gb_none (gb_sub g g1)) g12) hs3)
        | none =>
          have HM := Lib.hid hcm
          rw [hcm] at h2
          clear hcm
          obtain ⟨rfl, hs3⟩ := h2
          have d0 := hs3.c0
          have d1 := hs3.c1
          have e1 := hs3.fr 1
          have hb3 := hs3.lt
          by_cases hle : lineEndM s k < s.length
          · have hl3 : decide (lineEndM s k < s.length) = true := by simpa using hle
            have HN := Lib.hid (show nextLine s k = lineEndM s k + 1 by unfold nextLine; rw [if_pos hle])
            generalize lineEndM s k = q at *
            go_wp2
            go_quiet (fail)
            go_wp2
            exact bodyPost_ret (v := .tuple #[.bool true, .bool true]) (by simp [results, Tryz.results113, go_sem]) rfl (contPost_ok (j := q + 1) HK.out HG.out HM.out HN.out (gb_set (gb_drewN (gb_trans (gb_none (gb_sub g g1)) g12) _) _ _ (.inl rfl)) (by repeat (first | (with_reducible assumption) | (with_reducible apply Sc.alloc) | (with_reducible apply Sc.drew) | (with_reducible apply Sc.drewN) | (with_reducible apply Sc.setLine) | (with_reducible apply Sc.setBegun) | (with_reducible apply Sc.setBad) | (with_reducible apply Sc.go) | (with_reducible apply Sc.set_other) | omega | (simp <;> omega))))
          · have hl3 : decide (lineEndM s k < s.length) = false := by simpa using hle
            have HN := Lib.hid (show nextLine s k = lineEndM s k by unfold nextLine; rw [if_neg hle])
            generalize lineEndM s k = q at *
            go_wp2
            go_quiet (fail)
            go_wp2
            exact bodyPost_ret (v := .tuple #[.bool true, .bool true]) (by simp [results, Tryz.results113, go_sem]) rfl (contPost_ok (j := q) HK.out HG.out HM.out HN.out (gb_drewN (gb_trans (gb_none (gb_sub g g1)) g12) _) (by repeat (first | (with_reducible assumption) | (with_reducible apply Sc.alloc) | (with_reducible apply Sc.drew) | (with_reducible apply Sc.drewN) | (with_reducible apply Sc.setLine) | (with_reducible apply Sc.setBegun) | (with_reducible apply Sc.setBad) | (with_reducible apply Sc.go) | (with_reducible apply Sc.set_other) | omega | (simp <;> omega))))

end Go.Proofs.YtmcajbhljbbglaaGreatDoor

namespace Go.Proofs.YtmcajbhljbbglaaGreatDoor
open Go.Lib

theorem enc_ascii (x : Int) (h : ∀ b ∈ encodeRune x, b.toNat < 128) : (0 ≤ x ∧ x ≤ 127) ∧ encodeRune x = [x.toNat.toUInt8] := by
  have hz : ∀ y ∈ encodeRuneZ x, y < 128 := by
    intro y hy
    have hb := encodeRuneZ_byte x y hy
    have := h y.toNat.toUInt8 (List.mem_map.2 ⟨y, hy, rfl⟩)
    simp [UInt8.toNat_ofNat'] at this
    omega
  by_cases h0 : 0 ≤ x ∧ x ≤ 127
  · exact ⟨h0, by simp [encodeRune, encodeRuneZ_one h0.1 h0.2]⟩
  · exfalso
    by_cases h1 : 128 ≤ x ∧ x ≤ 2047
    · have := hz (192 + x / 64) (by rw [encodeRuneZ_two h1.1 h1.2]; simp); omega
    · by_cases h2 : (2048 ≤ x ∧ x < 55296) ∨ (57343 < x ∧ x ≤ 65535)
      · have := hz (224 + x / 4096) (by rw [encodeRuneZ_three h2]; simp); omega
      · by_cases h3 : 65536 ≤ x ∧ x ≤ 1114111
        · have := hz (240 + x / 262144) (by rw [encodeRuneZ_four h3.1 h3.2]; simp); omega
        · have := hz 239 (by rw [encodeRuneZ_bad (by omega)]; simp); omega

theorem upU_bad : toUpperU 65533 = 65533 := by decide +kernel

theorem decode_one {l : List UInt8} (hne : l ≠ []) (h1 : (decodeL l).2 = 1) : (decodeL l).1 = 65533 ∨ ∀ b ∈ l.take 1, b.toNat < 128 := by
  by_cases hv : (decodeL l).1 = 65533
  · exact .inl hv
  · refine .inr ?_
    have he := encode_decode l hne (fun h => hv h.1)
    rw [h1] at he
    by_cases h0 : ((decodeL l).1 : Int) ≤ 127
    · rw [← he]
      intro b hb
      rw [encodeRune, encodeRuneZ_one (by omega) h0] at hb
      simp at hb
      subst hb
      simp [UInt8.toNat_ofNat']
      omega
    · exfalso
      have hlen : (encodeRune ((decodeL l).1 : Int)).length ≤ 1 := by rw [he]; simp; omega
      generalize ((decodeL l).1 : Int) = x at *
      unfold encodeRune at hlen
      rw [List.length_map] at hlen
      by_cases h1 : 128 ≤ x ∧ x ≤ 2047
      · rw [encodeRuneZ_two h1.1 h1.2] at hlen; simp at hlen
      · by_cases h2 : (2048 ≤ x ∧ x < 55296) ∨ (57343 < x ∧ x ≤ 65535)
        · rw [encodeRuneZ_three h2] at hlen; simp at hlen
        · by_cases h3 : 65536 ≤ x ∧ x ≤ 1114111
          · rw [encodeRuneZ_four h3.1 h3.2] at hlen; simp at hlen
          · rw [encodeRuneZ_bad (by omega)] at hlen; simp at hlen

theorem decode_pos (l : List UInt8) : 1 ≤ (decodeL l).2 := by
  unfold decodeL Utf8.decode
  simp only []
  repeat' split
  all_goals simp

theorem upD_ascii : ∀ (n : Nat) (l : List UInt8), l.length ≤ n → (∀ b ∈ toUpperD l, b.toNat < 128) → (toUpperD l).length ≤ l.length ∧ ((toUpperD l).length = l.length → ∀ b ∈ l, b.toNat < 128) := by
  intro n
  induction n with
  | zero =>
    intro l hl _
    have : l = [] := List.eq_nil_of_length_eq_zero (by omega)
    subst this
    exact ⟨Nat.le_refl _, by simp⟩
  | succ n ih =>
    intro l hl h
    by_cases hne : l = []
    · subst hne
      exact ⟨Nat.le_refl _, by simp⟩
    · have hp := decode_pos l
      have hk := decodeL_le l hne
      have hlen : 0 < l.length := List.length_pos_iff.2 hne
      unfold toUpperD at h ⊢
      rw [mapD_step _ _ hne] at h ⊢
      have ih' := ih (l.drop (decodeL l).2) (by simp; omega)
      unfold toUpperD at ih'
      have h2 := ih' (fun b hb => h b (List.mem_append.2 (.inr hb)))
      rw [List.length_drop] at h2
      by_cases h0 : 0 ≤ toUpperU (decodeL l).1
      · rw [if_pos h0] at h ⊢
        obtain ⟨hx, he⟩ := enc_ascii _ (fun b hb => h b (List.mem_append.2 (.inl hb)))
        rw [he]
        simp only [List.length_append, List.length_cons, List.length_nil]
        refine ⟨by omega, fun e => ?_⟩
        have hk1 : (decodeL l).2 = 1 := by omega
        rcases decode_one hne hk1 with h3 | h3
        · rw [h3] at hx
          have := upU_bad
          simp at hx
          omega
        · intro b hb
          rw [hk1] at h2
          rw [← List.take_append_drop 1 l] at hb
          rcases List.mem_append.1 hb with hb | hb
          · exact h3 b hb
          · exact h2.2 (by rw [hk1] at e; omega) b hb
      · rw [if_neg h0]
        simp only [List.nil_append]
        exact ⟨by omega, fun e => by omega⟩

theorem upperB_high (b : UInt8) (h : 128 ≤ b.toNat) : upperB b = b := by
  unfold upperB isLowerB
  split
  · rename_i h1
    simp [UInt8.le_iff_toNat_le] at h1
    omega
  · rfl

/-- of a text of the same length: just where the bytes' capitals are the word -/
theorem upper_word (x w : List UInt8) (hl : x.length = w.length) (hw : ∀ b ∈ w, b.toNat < 128) : (toUpperD x == w) = (toUpperA x == w) := by
  by_cases ha : ∀ b ∈ x, b.toNat < 128
  · rw [toUpperD_ascii x ha]
  · have h1 : toUpperA x ≠ w := by
      rintro rfl
      apply ha
      intro b hb
      by_cases hh : b.toNat < 128
      · exact hh
      · exact absurd (hw (upperB b) (List.mem_map.2 ⟨b, hb, rfl⟩)) (by rw [upperB_high b (by omega)]; exact hh)
    have h2 : toUpperD x ≠ w := by
      intro e
      apply ha
      exact (upD_ascii x.length x (Nat.le_refl _) (by rw [e]; exact hw)).2 (by rw [e, hl])
    rw [beq_eq_false_iff_ne.2 h1, beq_eq_false_iff_ne.2 h2]

end Go.Proofs.YtmcajbhljbbglaaGreatDoor

namespace Go.Proofs.YtmcajbhljbbglaaGreatDoor
open Go.RowKit

theorem ba_beq (a b : Bs) : ((⟨a.toArray⟩ : ByteArray) == ⟨b.toArray⟩) = (a == b) := by
  rw [Bool.eq_iff_iff]
  show ((⟨a.toArray⟩ : ByteArray).data == (⟨b.toArray⟩ : ByteArray).data) = true ↔ _
  simp
def mapEs : List (Bs × Bs) → Nat → List MapEntry
  | [], _ => []
  | (k, v) :: l, n => { key := str k, val := str v, born := n } :: mapEs l (n + 1)
/-- a map of texts, written out of a literal -/
def mapObj (l : List (Bs × Bs)) : Obj := .map (mapEs l 0).toArray l.length
theorem mapEs_snoc (l : List (Bs × Bs)) (k v : Bs) : ∀ n, mapEs (l ++ [(k, v)]) n = mapEs l n ++ [{ key := str k, val := str v, born := n + l.length }] := by
  induction l with
  | nil => intro n; simp [mapEs]
  | cons x l ih => intro n; obtain ⟨a, b⟩ := x; simp [mapEs, ih, Nat.add_assoc, Nat.add_comm 1]
def lookB (s : Bs) : List (Bs × Bs) → Nat → Option (Nat × Value)
  | [], _ => none
  | (k, v) :: l, i => if s == k then some (i, str v) else lookB s l (i + 1)
theorem findNow_mapEs (s : Bs) (l : List (Bs × Bs)) : ∀ n i, Instr.findNow .string (str s) (mapEs l n) i = some (lookB s l i) := by
  induction l with
  | nil => intro n i; simp [mapEs, Instr.findNow, lookB]
  | cons x l ih =>
    intro n i
    obtain ⟨a, b⟩ := x
    simp only [mapEs, Instr.findNow, Instr.sameNow, ba_beq, lookB]
    cases h : s == a
    · simp [ih]
    · simp
def freshB (k : Bs) : List (Bs × Bs) → Prop
  | [] => True
  | x :: l => k ≠ x.1 ∧ freshB k l
theorem freshB_nil (k : Bs) : freshB k [] := trivial
theorem freshB_cons (k a b : Bs) (l : List (Bs × Bs)) : freshB k ((a, b) :: l) = (k ≠ a ∧ freshB k l) := rfl
theorem lookB_none (k : Bs) (l : List (Bs × Bs)) (hf : freshB k l) : ∀ i, lookB k l i = none := by
  induction l with
  | nil => intro i; rfl
  | cons x l ih =>
    intro i
    simp only [lookB]
    rw [if_neg (by simpa using hf.1)]
    exact ih hf.2 _
theorem mapEs_length (l : List (Bs × Bs)) : ∀ n, (mapEs l n).length = l.length := by
  induction l with
  | nil => intro n; rfl
  | cons x l ih => intro n; obtain ⟨a, b⟩ := x; simp [mapEs, ih]
theorem alloc_set_last (w : World) (o o' : Obj) : (w.heap.push o).setIfInBounds w.heap.size o' = w.heap.push o' := by
  have h : ∀ (l : List Obj) (o o' : Obj), (l ++ [o]).set l.length o' = l ++ [o'] := by
    intro l; induction l with
    | nil => intro o o'; rfl
    | cons x l ih => intro o o'; simp [ih]
  apply Array.toList_inj.1
  have := h w.heap.toList o o'
  simpa using this
theorem upd_last {P : Program} {mty kt et : TypeId} (hm : P.underlying mty = some (.map kt et)) (hk : P.underlying kt = some .string) (w : World) (l : List (Bs × Bs)) (r : Nat) (hr : r = w.heap.size) (k v : Bs) (hf : freshB k l) :
    (Instr.mapUpdate mty (.map (some r)) (str k) (str v)).run P (w.alloc (mapObj l)) = .ok () (w.alloc (mapObj (l ++ [(k, v)]))) := by
  subst hr
  have hb : (w.alloc (mapObj l)).heap[w.heap.size]? = some (.map (mapEs l 0).toArray l.length) := heap_alloc_new w _
  have hf : Instr.findNow .string (str k) (mapEs l 0) 0 = some none := by rw [findNow_mapEs, lookB_none k l hf]
  have hc : (Instr.checkKey false 10000 kt (str k)).run P (w.alloc (mapObj l)) = .ok () (w.alloc (mapObj l)) := MapKept.run_checkKey (k := str k) hk (by simp [MapKept.IsKey]) false 9999
  simp [Instr.mapUpdate, run_underlying hm, MapKept.run_getObj_map hb, hc, MapKept.run_findKey hk hf, MapKept.run_setObj_map _ hb, Result.andThen]
  have e := alloc_set_last w (mapObj l) (mapObj (l ++ [(k, v)]))
  have e2 : (Obj.map (mapEs l 0 ++ [({ key := str k, val := str v, born := l.length } : MapEntry)]).toArray (l.length + 1)) = mapObj (l ++ [(k, v)]) := by simp [mapObj, mapEs_snoc]
  rw [e2]
  show ({ w with heap := (w.heap.push (mapObj l)).setIfInBounds w.heap.size (mapObj (l ++ [(k, v)])) } : World) = { w with heap := w.heap.push (mapObj (l ++ [(k, v)])) }
  rw [e]
theorem run_lookup_map {P : Program} {mty kt et : TypeId} (hm : P.underlying mty = some (.map kt et)) (hk : P.underlying kt = some .string) (w : World) (l : List (Bs × Bs)) (r : Nat) (hb : w.heap[r]? = some (mapObj l)) (k : Bs) (z : Value) (hz : (zeroValue et).run P w = .ok z w) :
    (Instr.lookup mty (.map (some r)) (str k) false).run P w = .ok (match lookB k l 0 with | some (_, v) => v | none => z) w := by
  have hb' : w.heap[r]? = some (.map (mapEs l 0).toArray l.length) := hb
  have hf : Instr.findNow .string (str k) (mapEs l 0) 0 = some (lookB k l 0) := by rw [findNow_mapEs]
  have hc : ∀ e, (Instr.checkKey e 10000 kt (str k)).run P w = .ok () w := fun e => MapKept.run_checkKey (k := str k) hk (by simp [MapKept.IsKey]) e 9999
  cases h : lookB k l 0 with
  | none => simp [Instr.lookup, run_underlying hm, MapKept.run_getObj_map hb', hc, MapKept.run_findKey hk hf, Result.andThen, h, hz]
  | some x => simp [Instr.lookup, run_underlying hm, MapKept.run_getObj_map hb', hc, MapKept.run_findKey hk hf, Result.andThen, h]

theorem mk_map (w : World) : (Instr.makeMap 170 none).run Tryz.prog w = .ok (.map (some w.heap.size)) (w.alloc (mapObj [])) := run_makeMap_plain w _
theorem upd_lvl (w : World) (l : List (Bs × Bs)) (r : Nat) (hr : r = w.heap.size) (k v : Bs) (hf : freshB k l) :
    (Instr.mapUpdate 170 (.map (some r)) (.string ⟨k.toArray⟩) (.string ⟨v.toArray⟩)).run Tryz.prog (w.alloc (mapObj l)) = .ok () (w.alloc (mapObj (l ++ [(k, v)]))) :=
  upd_last Tryz.underlying170 Tryz.underlying9 w l r hr k v hf

theorem heap_new (w : World) (o : Obj) (n : Nat) (h : n = w.heap.size) : (w.alloc o).heap[n]? = some o := by subst h; exact heap_alloc_new w o
theorem heap_old (w : World) (o o' : Obj) (n : Nat) (h : w.heap[n]? = some o') : (w.alloc o).heap[n]? = some o' := (Below.heap_alloc w o n (Array.getElem?_eq_some_iff.1 h).1).trans h

/-- the maps of all levels, from block m on -/
def Lvls (w : World) (m : Nat) : Prop := ∀ k, k < 6 → w.heap[m + k]? = some (mapObj (lvl k))

set_option maxRecDepth 20000 in
set_option maxHeartbeats 1000000 in
theorem levels_any (w : World) : Calls Tryz.prog 164 #[] w fun e w' => ∃ m, e = .returned (.agg #[.map (some m), .map (some (m + 1)), .map (some (m + 2)), .map (some (m + 3)), .map (some (m + 4)), .map (some (m + 5))]) ∧ Lvls w' m ∧ w.grownBy w' none := by
  have hmm := mk_map
  have hup := upd_lvl
  have hfn := freshB_nil
  have hfc := freshB_cons
  go_enter Tryz.func164, Tryz.ntmps164
  go_wp2
  clear hmm hup hfn hfc
  refine bodyPost_ret (v := .agg #[.map (some (w.heap.size + 1)), .map (some (w.heap.size + 1 + 1)), .map (some (w.heap.size + 1 + 1 + 1)), .map (some (w.heap.size + 1 + 1 + 1 + 1)), .map (some (w.heap.size + 1 + 1 + 1 + 1 + 1)), .map (some (w.heap.size + 1 + 1 + 1 + 1 + 1 + 1))]) ?_ rfl ⟨w.heap.size + 1, rfl, ?_, ?_⟩
  · simp [results, Tryz.results164, go_sem]
  · intro k hk
    match k, hk with
    | 0, _ => iterate 5 refine heap_old _ _ _ _ ?_
              exact heap_new _ _ _ (by simp)
    | 1, _ => iterate 4 refine heap_old _ _ _ _ ?_
              exact heap_new _ _ _ (by simp)
    | 2, _ => iterate 3 refine heap_old _ _ _ _ ?_
              exact heap_new _ _ _ (by simp)
    | 3, _ => iterate 2 refine heap_old _ _ _ _ ?_
              exact heap_new _ _ _ (by simp)
    | 4, _ => iterate 1 refine heap_old _ _ _ _ ?_
              exact heap_new _ _ _ (by simp)
    | 5, _ => exact heap_new _ _ _ (by simp)
  · exact (by repeat (first | (with_reducible exact gb_refl _ _) | (with_reducible assumption) | (with_reducible exact gb_none (by assumption)) | (with_reducible refine gb_alloc ?_ _) | (with_reducible refine gb_drew ?_) | (with_reducible refine gb_drewN ?_ _) | ((with_reducible refine gb_set ?_ _ _ ?h2); case h2 => first | exact .inl rfl | exact .inr (Nat.le_refl _) | exact .inr (by simp <;> omega)) | (with_reducible refine gb_sub ?_ (by assumption)) | (with_reducible refine gb_trans ?_ (by assumption))))

theorem zero_str (w : World) : (zeroValue 9).run Tryz.prog w = .ok (str []) w := by kernel_rfl

theorem lookB_lookup (s : Bs) (l : List (Bs × Bs)) : ∀ i, (match lookB s l i with | some (_, v) => v | none => str []) = str ((l.lookup s).getD []) := by
  induction l with
  | nil => intro i; rfl
  | cons x l ih =>
    intro i
    obtain ⟨a, b⟩ := x
    simp only [lookB, List.lookup_cons]
    cases s == a
    · simpa using ih (i + 1)
    · rfl

theorem lookup_lvl {w : World} {m : Nat} (h : Lvls w m) (k : Nat) (hk : k < 6) (s : Bs) : (Instr.lookup 170 (.map (some (m + k))) (str s) false).run Tryz.prog w = .ok (str (opOf k s)) w := by
  rw [run_lookup_map Tryz.underlying170 Tryz.underlying9 w (lvl k) (m + k) (h k hk) s (str []) (zero_str w), lookB_lookup]
  rfl

theorem idx_lvl (m k : Nat) (hk : k < 6) (w : World) : (Instr.index 171 (.agg #[.map (some m), .map (some (m + 1)), .map (some (m + 2)), .map (some (m + 3)), .map (some (m + 4)), .map (some (m + 5))]) (.int .i64 k)).run Tryz.prog w = .ok (.map (some (m + k))) w := by
  have h6 : k = 0 ∨ k = 1 ∨ k = 2 ∨ k = 3 ∨ k = 4 ∨ k = 5 := by omega
  rcases h6 with rfl | rfl | rfl | rfl | rfl | rfl <;> (show _ = _; kernel_rfl)

theorem operM_lt {l : List Tok} {k i : Nat} (h : operM l k i ≠ []) : i < l.length := by
  apply tokAt_lt
  intro e
  apply h
  simp [operM, e]

set_option maxRecDepth 20000 in
set_option maxHeartbeats 1000000 in
theorem operator_any {w : World} {b : Nat} {tv wv : Value} {l : List Tok} {wl : List Bs} {i : Nat} (h : Par w b tv wv l wl i) (k : Nat) (hk : k < 6) :
    Calls Tryz.prog 115 #[.pointer (some ⟨b, 0, none⟩), .int .i64 k] w fun e w' => e = .returned (str (operM l k i)) ∧ w.grownBy w' (some b) ∧ Par w' b tv wv l wl (stepM (operM l k i) i) := by
  by_cases hs : (tokAt l i).kind = 4
  · have ho : operM l k i = opOf k (tokAt l i).text := by simp [operM, hs]
    have hl : opOf k (tokAt l i).text ≠ [] → i < l.length := fun e => operM_lt (by rw [ho]; exact e)
    rw [ho]
    have H := Lib.hid hs
    clear ho hs
    have HL := Lib.hid hl
    clear hl
    have hix := fun m => idx_lvl m k hk
    have hf := h.few
    generalize hO : opOf k (tokAt l i).text = o at *
    have HO := Lib.hid hO
    clear hO
    cases o with
    | nil =>
      go_enter Tryz.func115, Tryz.ntmps115
      go_wp2_with fail
      refine (ahead0 h).mono ?_
      rintro e w1 ⟨rfl, g1⟩
      rw [tokV, H.out]
      have h1 := h.gbN g1
      go_wp2_with fail
      go_region_with (go_at_call 164; refine (levels_any _).mono ?_; rintro e w2 ⟨m, rfl, hm, g2⟩; have hlk := lookup_lvl hm k hk (tokAt l i).text; rw [HO.out] at hlk; have ct : w2.cell? ⟨w1.heap.size, 2, none⟩ = some (str (tokAt l i).text) := gb_cellN g2 (by simp))
      all_goals
        go_wp2
        go_ret
        refine ⟨rfl, (by repeat (first | (with_reducible exact gb_refl _ _) | (with_reducible assumption) | (with_reducible exact gb_none (by assumption)) | (with_reducible refine gb_alloc ?_ _) | (with_reducible refine gb_drew ?_) | (with_reducible refine gb_drewN ?_ _) | ((with_reducible refine gb_set ?_ _ _ ?h2); case h2 => first | exact .inl rfl | exact .inr (Nat.le_refl _) | exact .inr (by simp <;> omega)) | (with_reducible refine gb_sub ?_ (by assumption)) | (with_reducible refine gb_trans ?_ (by assumption)))), ?_⟩
        rw [stepM_nil]
        exact h.gbN (by repeat (first | (with_reducible exact gb_refl _ _) | (with_reducible assumption) | (with_reducible exact gb_none (by assumption)) | (with_reducible refine gb_alloc ?_ _) | (with_reducible refine gb_drew ?_) | (with_reducible refine gb_drewN ?_ _) | ((with_reducible refine gb_set ?_ _ _ ?h2); case h2 => first | exact .inl rfl | exact .inr (Nat.le_refl _) | exact .inr (by simp <;> omega)) | (with_reducible refine gb_sub ?_ (by assumption)) | (with_reducible refine gb_trans ?_ (by assumption))))
    | cons c o =>
      have hi : i < l.length := HL.out (by simp)
      go_enter Tryz.func115, Tryz.ntmps115
      go_wp2_with fail
      refine (ahead0 h).mono ?_
      rintro e w1 ⟨rfl, g1⟩
      rw [tokV, H.out]
      have h1 := h.gbN g1
      go_wp2_with fail
      go_region_with (go_at_call 164; refine (levels_any _).mono ?_; rintro e w2 ⟨m, rfl, hm, g2⟩; have hlk := lookup_lvl hm k hk (tokAt l i).text; rw [HO.out] at hlk; have ct : w2.cell? ⟨w1.heap.size, 2, none⟩ = some (str (tokAt l i).text) := gb_cellN g2 (by simp); have h2 : Par w2 b tv wv l wl i := h.gbN (by repeat (first | (with_reducible exact gb_refl _ _) | (with_reducible assumption) | (with_reducible exact gb_none (by assumption)) | (with_reducible refine gb_alloc ?_ _) | (with_reducible refine gb_drew ?_) | (with_reducible refine gb_drewN ?_ _) | ((with_reducible refine gb_set ?_ _ _ ?h2); case h2 => first | exact .inl rfl | exact .inr (Nat.le_refl _) | exact .inr (by simp <;> omega)) | (with_reducible refine gb_sub ?_ (by assumption)) | (with_reducible refine gb_trans ?_ (by assumption)))); have c1 := h2.c1; have f1 := h2.f1)
      all_goals
        go_wp2
        go_ret
        refine ⟨rfl, (by repeat (first | (with_reducible exact gb_refl _ _) | (with_reducible assumption) | (with_reducible exact gb_none (by assumption)) | (with_reducible refine gb_alloc ?_ _) | (with_reducible refine gb_drew ?_) | (with_reducible refine gb_drewN ?_ _) | ((with_reducible refine gb_set ?_ _ _ ?h2); case h2 => first | exact .inl rfl | exact .inr (Nat.le_refl _) | exact .inr (by simp <;> omega)) | (with_reducible refine gb_sub ?_ (by assumption)) | (with_reducible refine gb_trans ?_ (by assumption)))), ?_⟩
        rw [stepM_ne (by simp)]
        exact h2.goI _ _ (by omega) (by omega)
  · have hs' : ((tokAt l i).kind == 4) = false := by simpa using hs
    have ho : operM l k i = [] := by simp [operM, hs]
    rw [ho]
    clear ho hs
    go_enter Tryz.func115, Tryz.ntmps115
    go_wp2_with fail
    refine (ahead0 h).mono ?_
    rintro e w1 ⟨rfl, g1⟩
    go_wp2
    go_ret
    refine ⟨rfl, (by repeat (first | (with_reducible exact gb_refl _ _) | (with_reducible assumption) | (with_reducible exact gb_none (by assumption)) | (with_reducible refine gb_alloc ?_ _) | (with_reducible refine gb_drew ?_) | (with_reducible refine gb_drewN ?_ _) | ((with_reducible refine gb_set ?_ _ _ ?h2); case h2 => first | exact .inl rfl | exact .inr (Nat.le_refl _) | exact .inr (by simp <;> omega)) | (with_reducible refine gb_sub ?_ (by assumption)) | (with_reducible refine gb_trans ?_ (by assumption)))), ?_⟩
    show Par _ b tv wv l wl i
    exact h.gbN (by repeat (first | (with_reducible exact gb_refl _ _) | (with_reducible assumption) | (with_reducible exact gb_none (by assumption)) | (with_reducible refine gb_alloc ?_ _) | (with_reducible refine gb_drew ?_) | (with_reducible refine gb_drewN ?_ _) | ((with_reducible refine gb_set ?_ _ _ ?h2); case h2 => first | exact .inl rfl | exact .inr (Nat.le_refl _) | exact .inr (by simp <;> omega)) | (with_reducible refine gb_sub ?_ (by assumption)) | (with_reducible refine gb_trans ?_ (by assumption))))

end Go.Proofs.YtmcajbhljbbglaaGreatDoor
