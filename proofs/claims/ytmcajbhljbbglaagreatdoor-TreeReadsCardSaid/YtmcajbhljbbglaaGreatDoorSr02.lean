/-
  The reference's lexer: Unstamp, dateAt.
-/
import Derived.Test.YtmcajbhljbbglaaGreatDoorSr01
import Derived.Test.YtmcajbhljbbglaaGreatDoorSs12
set_option linter.all false
set_option linter.unusedVariables false
set_option linter.unusedSimpArgs false
set_option linter.unnecessarySimpa false
set_option linter.constructorNameAsVariable false
set_option linter.deprecated false

namespace Go.Proofs.YtmcajbhljbbglaaGreatDoor
open Go.RowKit

theorem all_dig {s : Bs} (h : ∀ j, j < s.length → isDig (bAt s j) = true) : s.all isDig = true := by
  rw [List.all_eq_true]
  intro x hx
  obtain ⟨j, hj, rfl⟩ := List.mem_iff_getElem.1 hx
  rw [← bAt_eq hj]
  exact h j hj

set_option maxRecDepth 20000 in
set_option maxHeartbeats 1600000 in
theorem rUnstamp_any (s : Bs) (hs : s.length ≤ 1000000) (w : World) :
    Calls Tryz.prog 212 #[str s] w fun e w' => e = .returned (.tuple #[.int .i64 (unstampM s).1, .bool (unstampM s).2]) ∧ w.grownBy w' none := by
  by_cases hb : s = blanks8
  · subst hb
    go_enter Tryz.func212, Tryz.ntmps212
    go_wp2
    exact bodyPost_ret (v := .tuple #[.int .i64 0, .bool true]) (by simp [results, Tryz.results212, go_sem]) rfl ⟨rfl, gb_refl _ _⟩
  have hb' : (s == [32, 32, 32, 32, 32, 32, 32, 32]) = false := by simpa [blanks8] using hb
  by_cases h8 : s.length = 8
  · have h8n : ((s.length : Int) == 8) = true := by simp; omega
    have h8m : ((s.length : Int) != 8) = false := by simp; omega
    cases hd : s.all isDig with
    | false =>
      have hm : unstampM s = (0, false) := by simp only [unstampM, hb, if_false, hd]; simp
      rw [hm]
      have HD := Lib.hid hd
      clear hm hd
      go_enter Tryz.func212, Tryz.ntmps212
      go_wp2_with fail
      go_loopg [4] 8 (fun g v4 wr => ∃ k : Nat, k + g = 8 ∧ v4 = .int .i64 k ∧ (∀ j, j < k → isDig (bAt s j) = true) ∧ w = wr)
      case atStart => exact ⟨0, by omega, rfl, fun j hj => by omega, rfl⟩
      case round =>
        obtain ⟨k, hk, rfl, hj, rfl⟩ := hrel
        cases gk with
        | zero =>
          have : s.all isDig = true := all_dig (fun j hjl => hj j (by omega))
          rw [HD.out] at this
          cases this
        | succ gk =>
          have hkl : k < s.length := by omega
          have hk8 : decide ((k : Int) < 8) = true := by simp; omega
          have hg := fun h => ba_at s k h hkl
          have HJ := Lib.hid hj
          clear hj
          cases hc : cls 2 (bAt s k) with
          | true =>
            have HN := Lib.hid (show ∀ j, j < k + 1 → isDig (bAt s j) = true from fun j hj => by
              rcases Nat.lt_succ_iff_lt_or_eq.1 hj with h | h
              · exact HJ.out j h
              · subst h; rw [← cls_dig]; exact hc)
            have HC := Lib.hid hc
            clear hc
            go_wp2_with fail
            refine (rIsDigit_any _ _).mono ?_
            rintro e w1 ⟨rfl, rfl⟩
            rw [HC.out]
            go_wp2
            go_roundg gk
            case measure => omega
            case rel => exact ⟨k + 1, by omega, by go_num, HN.out, rfl⟩
          | false =>
            have HC := Lib.hid hc
            clear hc
            go_wp2_with fail
            refine (rIsDigit_any _ _).mono ?_
            rintro e w1 ⟨rfl, rfl⟩
            rw [HC.out]
            go_wp2
            exact bodyPost_ret (v := .tuple #[.int .i64 0, .bool false]) (by simp [results, Tryz.results212, go_sem]) rfl ⟨rfl, gb_refl _ _⟩
    | true =>
      have hm : unstampM s = ((daysM (numM (s.take 4)) (numM ((s.drop 4).take 2)) (numM (s.drop 6))).1, (daysM (numM (s.take 4)) (numM ((s.drop 4).take 2)) (numM (s.drop 6))).2 == 0) := by
        simp only [unstampM, hb, if_false, hd, h8]; simp
      rw [hm]
      clear hm
      have hat : ∀ k, k < s.length → cls 2 (bAt s k) = true := by
        intro k hk
        rw [cls_dig, bAt_eq hk]
        exact List.all_eq_true.1 hd s[k] (List.getElem_mem _)
      obtain ⟨a0, a1, a2, a3, a4, a5, a6, a7, hs8⟩ : ∃ a0 a1 a2 a3 a4 a5 a6 a7, s = [a0, a1, a2, a3, a4, a5, a6, a7] := by
        match s, h8 with
        | [a0, a1, a2, a3, a4, a5, a6, a7], _ => exact ⟨_, _, _, _, _, _, _, _, rfl⟩
      have hd4 : [a0, a1, a2, a3].all isDig = true ∧ [a4, a5].all isDig = true ∧ [a6, a7].all isDig = true := by
        rw [hs8] at hd
        simp at hd ⊢
        simp [hd]
      have et1 : s.take 4 = [a0, a1, a2, a3] := by rw [hs8]; rfl
      have et2 : (s.drop 4).take 2 = [a4, a5] := by rw [hs8]; rfl
      have et3 : s.drop 6 = [a6, a7] := by rw [hs8]; rfl
      rw [et1, et2, et3]
      clear et1 et2 et3
      have HD := Lib.hid hd4
      have HA := Lib.hid hat
      have HS := Lib.hid hs8
      clear hd4 hat hd hs8
      go_enter Tryz.func212, Tryz.ntmps212
      go_wp2_with fail
      go_loopg [4] 8 (fun g v4 wr => ∃ k : Nat, k + g = 8 ∧ v4 = .int .i64 k ∧ w = wr)
      case atStart => exact ⟨0, by omega, rfl, rfl⟩
      case round =>
        obtain ⟨k, hk, rfl, rfl⟩ := hrel
        cases gk with
        | succ gk =>
          have hkl : k < s.length := by omega
          have hk8 : decide ((k : Int) < 8) = true := by simp; omega
          have hg := fun h => ba_at s k h hkl
          have HC := Lib.hid (HA.out k hkl)
          go_wp2_with fail
          refine (rIsDigit_any _ _).mono ?_
          rintro e w1 ⟨rfl, rfl⟩
          rw [HC.out]
          go_wp2
          go_roundg gk
          case measure => omega
          case rel => exact ⟨k + 1, by omega, by go_num, rfl⟩
        | zero =>
          have hk8 : decide ((k : Int) < 8) = false := by simp; omega
          go_wp2_with fail
          have hs8 := HS.out
          have hy := numM_le _ HD.out.1 4 (by simp)
          have hm := numM_le _ HD.out.2.1 2 (by simp)
          have hd' := numM_le _ HD.out.2.2 2 (by simp)
          have hx1 : (⟨s.toArray⟩ : ByteArray).extract 0 4 = { data := #[a0, a1, a2, a3] } := by rw [hs8]; rfl
          have hx2 : (⟨s.toArray⟩ : ByteArray).extract 4 6 = { data := #[a4, a5] } := by rw [hs8]; rfl
          have hx3 : (⟨s.toArray⟩ : ByteArray).extract 6 8 = { data := #[a6, a7] } := by rw [hs8]; rfl
          have hl4 : (4 : Int) ≤ s.length := by omega
          have hl6 : (6 : Int) ≤ s.length := by omega
          clear hs8
          simp only [List.take_succ_cons, List.take_zero, List.drop_succ_cons, List.drop_zero, List.take_nil] at *
          generalize hY : numM [a0, a1, a2, a3] = Y at *
          generalize hMM : numM [a4, a5] = M at *
          generalize hDD : numM [a6, a7] = D at *
          have HN := Lib.hid (And.intro hY (And.intro hMM hDD))
          clear hY hMM hDD
          have hda := rDays_any Y M D (by omega) (by omega) (by omega) (by omega) (by omega) (by omega)
          have hv1 : ∀ w, Calls Tryz.prog 246 #[.string ⟨#[a0, a1, a2, a3]⟩] w fun e w' => e = .returned (.int .i64 Y) ∧ w' = w := fun w => by rw [← HN.out.1]; exact rVal_any [a0, a1, a2, a3] HD.out.1 (by simp) (by simp) w
          have hv2 : ∀ w, Calls Tryz.prog 246 #[.string ⟨#[a4, a5]⟩] w fun e w' => e = .returned (.int .i64 M) ∧ w' = w := fun w => by rw [← HN.out.2.1]; exact rVal_any [a4, a5] HD.out.2.1 (by simp) (by simp) w
          have hv3 : ∀ w, Calls Tryz.prog 246 #[.string ⟨#[a6, a7]⟩] w fun e w' => e = .returned (.int .i64 D) ∧ w' = w := fun w => by rw [← HN.out.2.2]; exact rVal_any [a6, a7] HD.out.2.2 (by simp) (by simp) w
          have HV := Lib.hid (And.intro hda (And.intro hv1 (And.intro hv2 hv3)))
          clear hda hv1 hv2 hv3
          go_region_with (first | (go_at_call 245; with_reducible refine (HV.out.1 _).mono ?_; rintro e w5 ⟨rfl, rfl⟩) | (with_reducible refine (HV.out.2.1 _).mono ?_; rintro e w2 ⟨rfl, rfl⟩) | (with_reducible refine (HV.out.2.2.1 _).mono ?_; rintro e w3 ⟨rfl, rfl⟩) | (with_reducible refine (HV.out.2.2.2 _).mono ?_; rintro e w4 ⟨rfl, rfl⟩))
          all_goals
            go_wp2
            exact bodyPost_ret (v := .tuple #[.int .i64 (daysM Y M D).1, .bool ((daysM Y M D).2 == 0)]) (by simp [results, Tryz.results212, go_sem]) rfl ⟨by rw [← HN.out.1, ← HN.out.2.1, ← HN.out.2.2], gb_drew (gb_refl _ _)⟩
  · have hm : unstampM s = (0, false) := by simp [unstampM, hb, h8]
    rw [hm]
    have h8n : ((s.length : Int) == 8) = false := by simp; omega
    have h8m : ((s.length : Int) != 8) = true := by simp; omega
    go_enter Tryz.func212, Tryz.ntmps212
    go_wp2
    exact bodyPost_ret (v := .tuple #[.int .i64 0, .bool false]) (by simp [results, Tryz.results212, go_sem]) rfl ⟨rfl, gb_refl _ _⟩

/-- what 'dateAt' gives -/
def RDatePost (w : World) (t : Bs) (e : Ending) (w' : World) : Prop := w.grownBy w' none ∧ match dateM t with
  | some (d, n) => e = .returned (.tuple #[str d, .int .i64 n])
  | none => e = .returned (.tuple #[str [], .int .i64 0])
section
variable {w w' : World} {t d : Bs} {m : Int} {n : Nat}
theorem rDatePost_some (h : dateM t = some (d, n)) (g : w.grownBy w' none) (hm : m = n) : RDatePost w t (.returned (.tuple #[str d, .int .i64 m])) w' := by
  subst hm; refine ⟨g, ?_⟩; rw [h]
theorem rDatePost_none (h : dateM t = none) (g : w.grownBy w' none) : RDatePost w t (.returned (.tuple #[str [], .int .i64 0])) w' := by
  refine ⟨g, ?_⟩; rw [h]
end

theorem part_of (s : Bs) (i a c : Nat) {l : Bs} (h : ((s.drop i).drop a).take c = l) : (⟨s.toArray⟩ : ByteArray).extract (i + a) (i + (a + c)) = ⟨l.toArray⟩ := by
  rw [ba_extract, show i + (a + c) - (i + a) = c by omega, ← List.drop_drop, h]

theorem unstamp_blank {D : Bs} (h : (unstampM D).2 = true) {c : UInt8} {r : Bs} (hD : D = c :: r) : (((c.toNat : Int) == 32) = true → D = blanks8) ∧ (((c.toNat : Int) == 32) = false → D ≠ blanks8) := by
  refine ⟨fun hc => ?_, fun hc e => ?_⟩
  · by_cases hb : D = blanks8
    · exact hb
    · exfalso
      unfold unstampM at h
      rw [if_neg hb] at h
      split at h
      · cases h
      · rename_i h2
        have hd : D.all isDig = true := by
          cases hx : D.all isDig with
          | true => rfl
          | false => exact absurd (.inr hx) h2
        rw [hD] at hd
        simp [isDig] at hd hc
        omega
  · rw [hD] at e
    simp [blanks8] at e
    rw [e.1] at hc
    simp at hc

set_option maxRecDepth 40000 in
set_option maxHeartbeats 4000000 in
theorem dateAt_any (s : Bs) (hs : s.length ≤ 4000) (i : Nat) (hi : i < s.length) (w : World) :
    Calls Tryz.prog 175 #[str s, .int .i64 i] w (RDatePost w (s.drop i)) := by
  have htl : (s.drop i).length = s.length - i := by simp
  have H2 := part_of s i 0 2 rfl
  have H26 := fun l => part_of s i 2 4 (l := l)
  have H79 := fun l => part_of s i 7 2 (l := l)
  have H1012 := fun l => part_of s i 10 2 (l := l)
  have hb6 := fun h6 h => ba_at s (i + 6) h h6
  have hb9 := fun h6 h => ba_at s (i + 9) h h6
  have hb12 := fun h6 h => ba_at s (i + 12) h h6
  have hbt : ∀ k, bAt s (i + k) = bAt (s.drop i) k := by intro k; simp [bAt]
  rw [hbt] at hb6 hb9 hb12
  rw [List.drop_zero] at H2
  simp only [Nat.add_zero, Nat.zero_add, Nat.reduceAdd] at H2 H26 H79 H1012
  clear hbt
  generalize hts : s.drop i = t at *
  clear hts
  cases hp : [123, 125].isPrefixOf t with
  | true =>
    have HM := Lib.hid (dateM_braces hp)
    have hpl := (List.isPrefixOf_iff_prefix.1 hp).length_le
    simp at hpl
    have hl1 : decide ((i : Int) + 1 < s.length) = true := by simp; omega
    have hl2 : i + 2 ≤ s.length := by omega
    have ht2 : t.take 2 = [123, 125] := by
      obtain ⟨r, hr⟩ := List.isPrefixOf_iff_prefix.1 hp
      rw [← hr]; rfl
    rw [ht2] at H2
    clear H26 H79 H1012 hb6 hb9 hb12 hp ht2 htl
    go_enter Tryz.func175, Tryz.ntmps175
    go_wp2
    exact bodyPost_ret (v := .tuple #[str [], .int .i64 2]) (by simp [results, Tryz.results175, go_sem]) rfl (rDatePost_some HM.out (gb_refl _ _) rfl)
  | false =>
    have hn2 : (t.take 2 == [123, 125]) = false := by
      cases hx : t.take 2 == [123, 125] with
      | false => rfl
      | true =>
        exfalso
        have hx' : t.take 2 = [123, 125] := by simpa using hx
        have : [123, 125].isPrefixOf t = true := by
          rw [List.isPrefixOf_iff_prefix]
          exact ⟨t.drop 2, by rw [← hx']; exact List.take_append_drop 2 t⟩
        rw [hp] at this; cases this
    by_cases h13 : 13 ≤ t.length
    · obtain ⟨a0, a1, a2, a3, a4, a5, a6, a7, a8, a9, a10, a11, a12, r, ht⟩ := thirteen h13
      have hil : i + 13 ≤ s.length := by omega
      have hl1 : decide ((i : Int) + 1 < s.length) = true := by simp; omega
      have hl2 : i + 2 ≤ s.length := by omega
      have hl13 : decide ((s.length : Int) < (i : Int) + 13) = false := by simp; omega
      have X26 := H26 [a2, a3, a4, a5] (by rw [ht]; rfl)
      have X79 := H79 [a7, a8] (by rw [ht]; rfl)
      have X1012 := H1012 [a10, a11] (by rw [ht]; rfl)
      have g6 := hb6 (by omega)
      have g9 := hb9 (by omega)
      have g12 := hb12 (by omega)
      rw [show bAt t 6 = a6 by rw [ht]; rfl] at g6
      rw [show bAt t 9 = a9 by rw [ht]; rfl] at g9
      rw [show bAt t 12 = a12 by rw [ht]; rfl] at g12
      have hform : dateForm t = ((t.take 2 == [123, 94]) && a6 == 45 && a9 == 45 && a12 == 125) := by rw [ht]; simp [dateForm, bAt]
      have hdig : dateDigits t = [a2, a3, a4, a5, a7, a8, a10, a11] := by rw [ht]; rfl
      generalize t.take 2 = p at *
      have HF := Lib.hid (And.intro hform hdig)
      have i6 : i + 6 < s.length := by omega
      have i9 : i + 9 < s.length := by omega
      have i12 : i + 12 < s.length := by omega
      clear hform hdig ht H26 H79 H1012 hb6 hb9 hb12 htl
      cases e1 : (p == [123, 94]) with
      | false =>
        have HM := Lib.hid (dateM_form hp (by rw [HF.out.1, e1]; rfl))
        go_enter Tryz.func175, Tryz.ntmps175
        go_wp2
        exact bodyPost_ret (v := .tuple #[str [], .int .i64 0]) (by simp [results, Tryz.results175, go_sem]) rfl (rDatePost_none HM.out (gb_refl _ _))
      | true =>
        cases e6 : ((a6.toNat : Int) != 45) with
        | true =>
          have HM := Lib.hid (dateM_form hp (by rw [HF.out.1, u8_45 e6]; simp))
          go_enter Tryz.func175, Tryz.ntmps175
          go_wp2
          exact bodyPost_ret (v := .tuple #[str [], .int .i64 0]) (by simp [results, Tryz.results175, go_sem]) rfl (rDatePost_none HM.out (gb_refl _ _))
        | false =>
          cases e9 : ((a9.toNat : Int) != 45) with
          | true =>
            have HM := Lib.hid (dateM_form hp (by rw [HF.out.1, u8_45 e9]; simp))
            go_enter Tryz.func175, Tryz.ntmps175
            go_wp2
            exact bodyPost_ret (v := .tuple #[str [], .int .i64 0]) (by simp [results, Tryz.results175, go_sem]) rfl (rDatePost_none HM.out (gb_refl _ _))
          | false =>
            cases e12 : ((a12.toNat : Int) != 125) with
            | true =>
              have HM := Lib.hid (dateM_form hp (by rw [HF.out.1, u8_125 e12]; simp))
              go_enter Tryz.func175, Tryz.ntmps175
              go_wp2
              exact bodyPost_ret (v := .tuple #[str [], .int .i64 0]) (by simp [results, Tryz.results175, go_sem]) rfl (rDatePost_none HM.out (gb_refl _ _))
            | false =>
              have hfo : dateForm t = true := by rw [HF.out.1, e1, u8_45 e6, u8_45 e9, u8_125 e12]; rfl
              have hdi := HF.out.2
              have HH := Lib.hid (And.intro hfo hdi)
              have HP := Lib.hid hp
              clear hfo hdi HF hp h13
              go_enter Tryz.func175, Tryz.ntmps175
              go_wp2_with fail
              go_quiet (fail)
              have hcat : (({ data := #[a2, a3, a4, a5] } : ByteArray) ++ { data := #[a7, a8] } ++ { data := #[a10, a11] }) = ⟨[a2, a3, a4, a5, a7, a8, a10, a11].toArray⟩ := rfl
              rw [hcat]
              have hul := rUnstamp_any [a2, a3, a4, a5, a7, a8, a10, a11] (by simp)
              have hgD : ∀ h, (⟨[a2, a3, a4, a5, a7, a8, a10, a11].toArray⟩ : ByteArray)[0]'h = a2 := fun h => rfl
              have hUB := fun h => unstamp_blank (D := [a2, a3, a4, a5, a7, a8, a10, a11]) h rfl
              have hDl : 0 < [a2, a3, a4, a5, a7, a8, a10, a11].length := by simp
              clear hcat X26 X79 X1012
              generalize [a2, a3, a4, a5, a7, a8, a10, a11] = D at *
              have HU := Lib.hid hul
              have HB := Lib.hid hUB
              clear hul hUB
              go_wp2_with fail
              refine (HU.out _).mono ?_
              rintro e w1 ⟨rfl, g1⟩
              cases hok : (unstampM D).2 with
              | false =>
                have HM := Lib.hid (dateM_no HP.out HH.out.1 (.inl (by rw [HH.out.2, hok])))
                generalize (unstampM D).1 = v at *
                go_wp2
                exact bodyPost_ret (v := .tuple #[str [], .int .i64 0]) (by simp [results, Tryz.results175, go_sem]) rfl (rDatePost_none HM.out (gb_sub (gb_drewN (gb_refl _ _) _) g1))
              | true =>
                have hub := HB.out hok
                cases hbl : ((a2.toNat : Int) == 32) with
                | true =>
                  have HM := Lib.hid (dateM_no HP.out HH.out.1 (.inr (by rw [HH.out.2]; exact hub.1 hbl)))
                  clear hub
                  generalize (unstampM D).1 = v at *
                  go_wp2
                  exact bodyPost_ret (v := .tuple #[str [], .int .i64 0]) (by simp [results, Tryz.results175, go_sem]) rfl (rDatePost_none HM.out (gb_sub (gb_drewN (gb_refl _ _) _) g1))
                | false =>
                  have HM := Lib.hid (dateM_yes HP.out HH.out.1 (by rw [HH.out.2, hok]) (by rw [HH.out.2]; exact hub.2 hbl))
                  have HD := Lib.hid HH.out.2
                  clear hub
                  generalize (unstampM D).1 = v at *
                  go_wp2
                  exact bodyPost_ret (v := .tuple #[str D, .int .i64 13]) (by simp [results, Tryz.results175, go_sem]) rfl (rDatePost_some (HD.out ▸ HM.out) (gb_sub (gb_drewN (gb_refl _ _) _) g1) rfl)
    · have HM := Lib.hid (dateM_form hp (by simp [dateForm, h13]))
      have hl13 : decide ((s.length : Int) < (i : Int) + 13) = true := by simp; omega
      clear H26 H79 H1012 hb6 hb9 hb12
      by_cases hl : i + 1 < s.length
      · have hl1 : decide ((i : Int) + 1 < s.length) = true := by simp; omega
        have hl2 : i + 2 ≤ s.length := by omega
        generalize t.take 2 = two at *
        clear hp h13 htl
        go_enter Tryz.func175, Tryz.ntmps175
        go_wp2
        exact bodyPost_ret (v := .tuple #[str [], .int .i64 0]) (by simp [results, Tryz.results175, go_sem]) rfl (rDatePost_none HM.out (gb_refl _ _))
      · have hl1 : decide ((i : Int) + 1 < s.length) = false := by simp; omega
        clear hp h13 htl H2
        go_enter Tryz.func175, Tryz.ntmps175
        go_wp2
        exact bodyPost_ret (v := .tuple #[str [], .int .i64 0]) (by simp [results, Tryz.results175, go_sem]) rfl (rDatePost_none HM.out (gb_refl _ _))

end Go.Proofs.YtmcajbhljbbglaaGreatDoor
