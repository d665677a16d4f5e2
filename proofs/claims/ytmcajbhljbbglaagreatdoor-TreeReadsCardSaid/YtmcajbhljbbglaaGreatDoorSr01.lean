/-
  Plain laws: the reference's lexer against the steps of 'lexM'.
  The reference's lexer: classes of bytes; its reader in memory.
  The reference's dates: leap, length, Days, Val, Unstamp.
-/
import Derived.Test.YtmcajbhljbbglaaGreatDoorSs04
import Derived.Test.YtmcajbhljbbglaaGreatDoorSs11
import Derived.Test.YtmcajbhljbbglaaGreatDoorSs14
import Derived.Test.YtmcajbhljbbglaaGreatDoorSs15
set_option linter.all false
set_option linter.unusedVariables false
set_option linter.unusedSimpArgs false
set_option linter.unnecessarySimpa false
set_option linter.constructorNameAsVariable false
set_option linter.deprecated false

namespace Go.Proofs.YtmcajbhljbbglaaGreatDoor

/-- only blanks stand before this place in its line -/
def firstM (s : Bs) : Nat → Bool
  | 0 => true
  | i + 1 => if cls 3 (bAt s i) then firstM s i else bAt s i == 10
/-- where no token stands in the line so far, only blanks stand before this place, or the line ends here -/
def InvF (s : Bs) (i : Nat) (line : Bool) : Prop := line = false → i < s.length → firstM s i = true ∨ bAt s i = 10

theorem firstM_blank {s : Bs} {i : Nat} (h : cls 3 (bAt s i) = true) : firstM s (i + 1) = firstM s i := by rw [firstM, if_pos h]
theorem firstM_other {s : Bs} {i : Nat} (h : cls 3 (bAt s i) = false) : firstM s (i + 1) = (bAt s i == 10) := by rw [firstM, if_neg (by rw [h]; simp)]
theorem cls3_ten {b : UInt8} (h : b = 10) : cls 3 b = false := by subst h; decide
theorem firstM_nl {s : Bs} {i : Nat} (h : bAt s i = 10) : firstM s (i + 1) = true := by rw [firstM_other (cls3_ten h), h]; rfl
theorem blank_ne {b : UInt8} (h : cls 3 b = true) : b ≠ 10 := by rintro rfl; revert h; decide

theorem tokenM_line {s : Bs} {i : Nat} {t : Tok} {j : Nat} {l : Bool} (h : tokenM s i = .tok t j l) : l = true := by
  unfold tokenM at h
  split at h
  · split at h
    · cases h
    · cases h; rfl
  · split at h
    · split at h
      · cases h
      · cases h; rfl
    · split at h
      · unfold quoteM at h
        simp only [] at h
        split at h
        · split at h
          · cases h
          · cases h; rfl
        · cases h
      · cases hd : dateM (s.drop i) with
        | some p => rw [hd] at h; cases h; rfl
        | none =>
          rw [hd] at h
          cases hs : signM s i with
          | some w => rw [hs] at h; cases h; rfl
          | none => rw [hs] at h; cases h
theorem tokenM_again {s : Bs} {i : Nat} {j : Nat} {l : Bool} (h : tokenM s i = .again j l) : False := by
  unfold tokenM at h
  split at h
  · split at h <;> cases h
  · split at h
    · split at h <;> cases h
    · split at h
      · unfold quoteM at h
        simp only [] at h
        split at h
        · split at h <;> cases h
        · cases h
      · cases hd : dateM (s.drop i) with
        | some p => rw [hd] at h; cases h
        | none =>
          rw [hd] at h
          cases hs : signM s i with
          | some w => rw [hs] at h; cases h
          | none => rw [hs] at h; cases h
theorem lineEnd_ten {s : Bs} {i : Nat} (h : lineEndM s i < s.length) : bAt s (lineEndM s i) = 10 := by
  have h' := runM_at (p := fun b => b != 10) h
  have e : bAt s (runM s (fun b => b != 10) i) = 10 := by simpa using h'
  exact e
theorem nextLine_inv (s : Bs) (k : Nat) (line : Bool) : InvF s (nextLine s k) line := by
  intro _ hj
  unfold nextLine at hj ⊢
  by_cases h : lineEndM s k < s.length
  · rw [if_pos h] at hj ⊢
    exact .inl (firstM_nl (lineEnd_ten h))
  · rw [if_neg h] at hj
    exact absurd hj h
def StInv (s : Bs) : St → Prop
  | .tok _ j l => InvF s j l
  | .again j l => InvF s j l
  | _ => True
/-- the law of the line's begin holds behind a step -/
theorem invF_step {s : Bs} {i : Nat} {line : Bool} (hI : InvF s i line) : StInv s (lexStep s i line) := by
  unfold lexStep
  split
  · split
    · intro _ h; omega
    · trivial
  · split
    · rename_i h10
      split
      · exact fun _ _ => .inl (firstM_nl h10)
      · exact fun _ _ => .inl (firstM_nl h10)
    · rename_i h10
      split
      · rename_i hb
        intro hl hj
        rcases hI hl (by omega) with h | h
        · exact .inl (by rw [firstM_blank hb]; exact h)
        · exact absurd h h10
      · split
        · cases commentM s i with
          | some k => trivial
          | none => exact fun _ hj => .inr (lineEnd_ten hj)
        · split
          · split
            · cases commentM s (skipM s (i + 1)) with
              | some k => trivial
              | none => exact nextLine_inv _ _ _
            · trivial
          · cases ht : tokenM s i with
            | tok t j l =>
              intro hl
              rw [tokenM_line ht] at hl
              cases hl
            | again j l => exact (tokenM_again ht).elim
            | stop => trivial
            | bad k => trivial

theorem InvF.start (s : Bs) : InvF s 0 false := fun _ _ => .inl rfl

/-- where a comment begins: as the reference asks -/
theorem com_eq {s : Bs} {i : Nat} {line : Bool} (hI : InvF s i line) (hi : i < s.length) : ((bAt s i == 42 && !line) || ampAt s i) = (ampAt s i || (bAt s i == 42 && (!line && firstM s i))) := by
  cases ha : ampAt s i with
  | true => simp
  | false =>
    cases h42 : bAt s i == 42 with
    | false => simp
    | true =>
      cases line with
      | true => simp
      | false =>
        rcases hI rfl hi with h | h
        · simp [h]
        · rw [h] at h42; cases h42

theorem ampAt_eq (s : Bs) (i : Nat) : ampAt s i = (decide (i + 1 < s.length) && (bAt s i == 38 && bAt s (i + 1) == 38)) := by
  unfold ampAt
  by_cases h : i + 1 < s.length
  · rw [drop_cons (by omega : i < s.length), drop_cons h]
    simp [List.isPrefixOf, h, Bool.beq_comm (a := (38 : UInt8))]
  · simp only [h, decide_false, Bool.false_and]
    by_cases h1 : i < s.length
    · rw [drop_cons h1, List.drop_eq_nil_of_le (by omega)]
      simp [List.isPrefixOf]
    · rw [List.drop_eq_nil_of_le (by omega)]
      rfl

/-- a run goes on behind a run of some of its bytes -/
theorem runM_via {s : Bs} {p q : UInt8 → Bool} (h : ∀ b, q b = true → p b = true) (i : Nat) : runM s p (runM s q i) = runM s p i :=
  runM_from (runM_ge _ _ _) (runM_mono h i)
theorem cls3_clean (b : UInt8) (h : cls 3 b = true) : (b != 10 && !cls 4 b) = true := by
  have h' : classM b.toNat = 3 := by simpa [cls] using h
  have h4 : cls 4 b = false := by simp [cls, h']
  have h10 := blank_ne h
  simp [h4, h10]
theorem skip_lineEnd (s : Bs) (i : Nat) : lineEndM s (skipM s i) = lineEndM s i := runM_via (fun b hb => by have := cls3_clean b hb; simp at this ⊢; exact this.1) i
theorem skip_clean (s : Bs) (i : Nat) : cleanM s (skipM s i) = cleanM s i := runM_via (fun b hb => cls3_clean b hb) i
theorem skip_comment (s : Bs) (i : Nat) : commentM s (skipM s i) = commentM s i := by unfold commentM; rw [skip_clean, skip_lineEnd]
theorem skip_nextLine (s : Bs) (i : Nat) : nextLine s (skipM s i) = nextLine s i := by unfold nextLine; rw [skip_lineEnd]

theorem dateM_first {t : Bs} {b : UInt8} {r : Bs} (h : t = b :: r) (hb : b ≠ 123) : dateM t = none := by
  subst h
  unfold dateM
  have h1 : [123, 125].isPrefixOf (b :: r) = false := by simp [List.isPrefixOf]; intro e; exact absurd e.symm hb
  rw [if_neg (by rw [h1]; simp)]
  have h2 : dateForm (b :: r) = false := by
    unfold dateForm
    cases r with
    | nil => simp
    | cons c r => simp [hb]
  rw [if_neg (by rw [h2]; simp)]
theorem signM_semi {s : Bs} {i : Nat} (hi : i < s.length) (h : bAt s i = 59) : signM s i = none := by
  unfold signM
  rw [List.find?_eq_none]
  intro w hw hx
  have hl := signsL_len hw
  simp only [signHere, Bool.and_eq_true, decide_eq_true_eq, beq_iff_eq] at hx
  have h0 : (Lib.toUpperA (sliceM s i (i + w.length)))[0]? = some 59 := by
    have : (sliceM s i (i + w.length))[0]? = some 59 := by
      rw [sliceM_at (by omega)]
      rw [← h, bAt_eq hi]
      simp [hi]
    unfold Lib.toUpperA
    rw [List.getElem?_map, this]
    rfl
  rw [hx.2] at h0
  have : signsL.all (fun w => w[0]? != some 59) = true := by decide
  have := List.all_eq_true.1 this w hw
  rw [h0] at this
  simp at this
/-- no token begins with a semicolon -/
theorem tokenM_semi {s : Bs} {i : Nat} (hi : i < s.length) (h : bAt s i = 59) : tokenM s i = .bad i := by
  unfold tokenM
  rw [if_neg (by rw [h]; decide), if_neg (by rw [h]; decide), if_neg (by rw [h]; decide), dateM_first (drop_cons hi) (by rw [h]; decide)]
  rw [signM_semi hi h]

/-- the first byte of a kind in a part of a source -/
theorem run_part {s : Bs} {p : UInt8 → Bool} {a q : Nat} (h1 : a ≤ q) (h2 : q ≤ s.length) : runM (sliceM s a q) p 0 = min (runM s p a) q - a := by
  induction hn : q - a generalizing a with
  | zero =>
    have : a = q := by omega
    subst this
    rw [runM_end (by simp [sliceM])]
    omega
  | succ n ih =>
    have hlt : a < q := by omega
    have hc : sliceM s a q = bAt s a :: sliceM s (a + 1) q := by
      unfold sliceM
      rw [drop_cons (by omega : a < s.length), show q - a = (q - (a + 1)) + 1 by omega, List.take_succ_cons]
    have ih' := ih (a := a + 1) (by omega) (by omega)
    cases hp : p (bAt s a) with
    | true =>
      rw [runM_step (by omega : a < s.length) hp]
      have hge := runM_ge s p (a + 1)
      have e : runM (sliceM s a q) p 0 = runM (sliceM s (a + 1) q) p 0 + 1 := by
        simp only [runM, hc, List.drop_zero, List.takeWhile_cons, hp, if_true, List.length_cons]
        omega
      rw [e, ih']
      omega
    | false =>
      rw [runM_stop (by omega : a < s.length) hp]
      simp only [runM, hc, List.drop_zero, List.takeWhile_cons, hp]
      simp
      omega

end Go.Proofs.YtmcajbhljbbglaaGreatDoor

namespace Go.Proofs.YtmcajbhljbbglaaGreatDoor
open Go.RowKit

theorem rIsDigit_any (b : UInt8) (w : World) : Calls Tryz.prog 173 #[.int .u8 b.toNat] w fun e w' => e = .returned (.bool (cls 2 b)) ∧ w = w' := by
  unfold cls
  rcases class_cases b.toNat with ⟨hc, h⟩ | ⟨hc, h⟩ | ⟨hc, h⟩ | ⟨hc, h⟩ | ⟨hc, h⟩
  all_goals rw [hc]
  · rcases h with h | h
    all_goals
      rw [h]
      go_enter Tryz.func173, Tryz.ntmps173
      go_wp2
      go_ret
      exact ⟨by first | rfl | (simp; done) | (simp; omega), rfl⟩
  · rcases h with h | ⟨h, h'⟩ | ⟨h, h'⟩
    · rw [h]
      go_enter Tryz.func173, Tryz.ntmps173
      go_wp2
      go_ret
      exact ⟨by first | rfl | (simp; done) | (simp; omega), rfl⟩
    all_goals
      go_enter Tryz.func173, Tryz.ntmps173
      go_wp2
      go_ret
      exact ⟨by first | rfl | (simp; done) | (simp; omega), rfl⟩
  · obtain ⟨h, h'⟩ := h
    go_enter Tryz.func173, Tryz.ntmps173
    go_wp2
    go_ret
    exact ⟨by first | rfl | (simp; done) | (simp; omega), rfl⟩
  · rcases h with h | ⟨h, h'⟩ | h
    all_goals
      go_enter Tryz.func173, Tryz.ntmps173
      go_wp2
      go_ret
      exact ⟨by first | rfl | (simp; done) | (simp; omega), rfl⟩
  · rcases h with h | ⟨h, h'⟩ | ⟨h, h'⟩ | ⟨h, h'⟩ | h | ⟨h, h'⟩
    all_goals
      try rw [h]
      go_enter Tryz.func173, Tryz.ntmps173
      go_wp2
      go_ret
      exact ⟨by first | rfl | (simp; done) | (simp; omega), rfl⟩

theorem rIsBlank_any (b : UInt8) (w : World) : Calls Tryz.prog 119 #[.int .u8 b.toNat] w fun e w' => e = .returned (.bool (cls 3 b)) ∧ w = w' := by
  unfold cls
  rcases class_cases b.toNat with ⟨hc, h⟩ | ⟨hc, h⟩ | ⟨hc, h⟩ | ⟨hc, h⟩ | ⟨hc, h⟩
  all_goals rw [hc]
  · rcases h with h | h
    all_goals
      rw [h]
      go_enter Tryz.func119, Tryz.ntmps119
      go_wp2
      go_ret
      exact ⟨by first | rfl | (simp; done) | (simp; omega), rfl⟩
  · rcases h with h | ⟨h, h'⟩ | ⟨h, h'⟩
    · rw [h]
      go_enter Tryz.func119, Tryz.ntmps119
      go_wp2
      go_ret
      exact ⟨by first | rfl | (simp; done) | (simp; omega), rfl⟩
    all_goals
      go_enter Tryz.func119, Tryz.ntmps119
      go_wp2
      go_ret
      exact ⟨by first | rfl | (simp; done) | (simp; omega), rfl⟩
  · obtain ⟨h, h'⟩ := h
    go_enter Tryz.func119, Tryz.ntmps119
    go_wp2
    go_ret
    exact ⟨by first | rfl | (simp; done) | (simp; omega), rfl⟩
  · rcases h with h | ⟨h, h'⟩ | h
    all_goals
      go_enter Tryz.func119, Tryz.ntmps119
      go_wp2
      go_ret
      exact ⟨by first | rfl | (simp; done) | (simp; omega), rfl⟩
  · rcases h with h | ⟨h, h'⟩ | ⟨h, h'⟩ | ⟨h, h'⟩ | h | ⟨h, h'⟩
    all_goals
      try rw [h]
      go_enter Tryz.func119, Tryz.ntmps119
      go_wp2
      go_ret
      exact ⟨by first | rfl | (simp; done) | (simp; omega), rfl⟩

theorem rIsLetter_any (b : UInt8) (w : World) : Calls Tryz.prog 170 #[.int .u8 b.toNat] w fun e w' => e = .returned (.bool (cls 1 b)) ∧ w = w' := by
  unfold cls
  rcases class_cases b.toNat with ⟨hc, h⟩ | ⟨hc, h⟩ | ⟨hc, h⟩ | ⟨hc, h⟩ | ⟨hc, h⟩
  all_goals rw [hc]
  · rcases h with h | h
    all_goals
      rw [h]
      go_enter Tryz.func170, Tryz.ntmps170
      go_wp2
      go_ret
      exact ⟨by first | rfl | (simp; done) | (simp; omega), rfl⟩
  · rcases h with h | ⟨h, h'⟩ | ⟨h, h'⟩
    · rw [h]
      go_enter Tryz.func170, Tryz.ntmps170
      go_wp2
      go_ret
      exact ⟨by first | rfl | (simp; done) | (simp; omega), rfl⟩
    all_goals
      go_enter Tryz.func170, Tryz.ntmps170
      go_wp2
      go_ret
      exact ⟨by first | rfl | (simp; done) | (simp; omega), rfl⟩
  · obtain ⟨h, h'⟩ := h
    go_enter Tryz.func170, Tryz.ntmps170
    go_wp2
    go_ret
    exact ⟨by first | rfl | (simp; done) | (simp; omega), rfl⟩
  · rcases h with h | ⟨h, h'⟩ | h
    all_goals
      go_enter Tryz.func170, Tryz.ntmps170
      go_wp2
      go_ret
      exact ⟨by first | rfl | (simp; done) | (simp; omega), rfl⟩
  · rcases h with h | ⟨h, h'⟩ | ⟨h, h'⟩ | ⟨h, h'⟩ | h | ⟨h, h'⟩
    all_goals
      try rw [h]
      go_enter Tryz.func170, Tryz.ntmps170
      go_wp2
      go_ret
      exact ⟨by first | rfl | (simp; done) | (simp; omega), rfl⟩

theorem rIsByte_any (b : UInt8) (w : World) : Calls Tryz.prog 168 #[.int .u8 b.toNat] w fun e w' => e = .returned (.bool (!cls 4 b)) ∧ w = w' := by
  unfold cls
  rcases class_cases b.toNat with ⟨hc, h⟩ | ⟨hc, h⟩ | ⟨hc, h⟩ | ⟨hc, h⟩ | ⟨hc, h⟩
  all_goals rw [hc]
  · rcases h with h | h
    all_goals
      rw [h]
      go_enter Tryz.func168, Tryz.ntmps168
      go_wp2
      go_ret
      exact ⟨by first | rfl | (simp; done) | (simp; omega), rfl⟩
  · rcases h with h | ⟨h, h'⟩ | ⟨h, h'⟩
    · rw [h]
      go_enter Tryz.func168, Tryz.ntmps168
      go_wp2
      go_ret
      exact ⟨by first | rfl | (simp; done) | (simp; omega), rfl⟩
    all_goals
      go_enter Tryz.func168, Tryz.ntmps168
      go_wp2
      go_ret
      exact ⟨by first | rfl | (simp; done) | (simp; omega), rfl⟩
  · obtain ⟨h, h'⟩ := h
    go_enter Tryz.func168, Tryz.ntmps168
    go_wp2
    go_ret
    exact ⟨by first | rfl | (simp; done) | (simp; omega), rfl⟩
  · rcases h with h | ⟨h, h'⟩ | h
    all_goals
      go_enter Tryz.func168, Tryz.ntmps168
      go_wp2
      go_ret
      exact ⟨by first | rfl | (simp; done) | (simp; omega), rfl⟩
  · rcases h with h | ⟨h, h'⟩ | ⟨h, h'⟩ | ⟨h, h'⟩ | h | ⟨h, h'⟩
    all_goals
      try rw [h]
      go_enter Tryz.func168, Tryz.ntmps168
      go_wp2
      go_ret
      exact ⟨by first | rfl | (simp; done) | (simp; omega), rfl⟩

/-- a byte's number against a number -/
theorem u8i {a : UInt8} {n : Nat} (hn : n < 256) : ((a.toNat : Int) == (n : Int)) = (a == UInt8.ofNat n) := by
  rw [Bool.eq_iff_iff]
  simp only [beq_iff_eq]
  constructor
  · intro h
    have h1 : a.toNat = n := by omega
    apply UInt8.toNat_inj.1
    rw [h1]
    simp [UInt8.toNat_ofNat', Nat.mod_eq_of_lt hn]
  · rintro rfl
    simp [UInt8.toNat_ofNat', Nat.mod_eq_of_lt hn]

theorem rCapital_any (b : UInt8) (w : World) : Calls Tryz.prog 193 #[.int .u8 b.toNat] w fun e w' => e = .returned (.int .u8 (Lib.upperB b).toNat) ∧ w = w' := by
  by_cases h : 97 ≤ b.toNat ∧ b.toNat ≤ 122
  · have e : ((Lib.upperB b).toNat : Int) = (b.toNat : Int) - 32 := by
      have h0 : Lib.isLowerB b = true := by simp [Lib.isLowerB, UInt8.le_iff_toNat_le]; omega
      unfold Lib.upperB
      rw [if_pos h0, UInt8.toNat_sub_of_le _ _ (by simp [UInt8.le_iff_toNat_le]; omega)]
      simp
      omega
    rw [e]
    obtain ⟨h, h'⟩ := h
    go_enter Tryz.func193, Tryz.ntmps193
    go_wp2
    go_ret
    exact ⟨by first | rfl | (simp; done) | (simp; omega), rfl⟩
  · have e : Lib.upperB b = b := by
      have h0 : Lib.isLowerB b = false := by
        simp [Lib.isLowerB, UInt8.le_iff_toNat_le]; omega
      unfold Lib.upperB
      rw [if_neg (by rw [h0]; simp)]
    rw [e]
    have hc : b.toNat < 97 ∨ 122 < b.toNat := by omega
    clear h e
    rcases hc with h | h
    all_goals
      go_enter Tryz.func193, Tryz.ntmps193
      go_wp2
      go_ret
      exact ⟨by first | rfl | (simp; done) | (simp; omega), rfl⟩

end Go.Proofs.YtmcajbhljbbglaaGreatDoor

namespace Go.Proofs.YtmcajbhljbbglaaGreatDoor
open Go.RowKit

set_option maxRecDepth 20000 in
theorem rLeap_any (y : Int) (h0 : 0 ≤ y) (h1 : y ≤ 100000) (w : World) : Calls Tryz.prog 290 #[.int .i64 y] w fun e w' => e = .returned (.bool (leapM y)) ∧ w' = w := by
  have b4 := Int.tmod_lt_of_pos y (b := 4) (by decide)
  have b100 := Int.tmod_lt_of_pos y (b := 100) (by decide)
  have b400 := Int.tmod_lt_of_pos y (b := 400) (by decide)
  have c4 := Int.tmod_nonneg (a := y) 4 h0
  have c100 := Int.tmod_nonneg (a := y) 100 h0
  have c400 := Int.tmod_nonneg (a := y) 400 h0
  have hl : leapM y = ((y.tmod 4 == 0) && (y.tmod 100 != 0) || (y.tmod 400 == 0)) := by
    unfold leapM
    by_cases h : y.tmod 400 = 0
    · have h4 : y.tmod 4 = 0 := by
        have e : y = 400 * (y.tdiv 400) + y.tmod 400 := (Int.mul_tdiv_add_tmod y 400).symm
        rw [h] at e
        rw [e, Int.tmod_eq_emod_of_nonneg (by omega)]
        omega
      simp [h, h4]
    · have hf : (y.tmod 400 == 0) = false := by simpa using h
      rw [hf]
      simp
  rw [hl]
  generalize e4 : y.tmod 4 = a at *
  generalize e100 : y.tmod 100 = b at *
  generalize e400 : y.tmod 400 = c at *
  clear hl
  by_cases h4 : a = 0
  · by_cases h100 : b = 0
    · go_enter Tryz.func290, Tryz.ntmps290
      go_wp2
      go_ret
      exact ⟨by simp [h4, h100], rfl⟩
    · go_enter Tryz.func290, Tryz.ntmps290
      go_wp2
      go_ret
      exact ⟨by simp [h4, h100], rfl⟩
  · go_enter Tryz.func290, Tryz.ntmps290
    go_wp2
    go_ret
    exact ⟨by simp [h4], rfl⟩

set_option maxRecDepth 20000 in
set_option maxHeartbeats 4000000 in
theorem rLength_any (y m : Int) (h0 : 0 ≤ y) (h1 : y ≤ 100000) (hm0 : 1 ≤ m) (hm1 : m ≤ 12) (w : World) : Calls Tryz.prog 276 #[.int .i64 y, .int .i64 m] w fun e w' => e = .returned (.int .i64 (monthM y m)) ∧ w' = w := by
  have hm : m = 1 ∨ m = 2 ∨ m = 3 ∨ m = 4 ∨ m = 5 ∨ m = 6 ∨ m = 7 ∨ m = 8 ∨ m = 9 ∨ m = 10 ∨ m = 11 ∨ m = 12 := by omega
  rcases hm with rfl | rfl | rfl | rfl | rfl | rfl | rfl | rfl | rfl | rfl | rfl | rfl
  case inr.inl =>
    go_enter Tryz.func276, Tryz.ntmps276
    go_wp2_with fail
    refine (rLeap_any y h0 h1 _).mono ?_
    rintro e w1 ⟨rfl, rfl⟩
    cases hl : leapM y with
    | true =>
      go_wp2
      go_ret
      exact ⟨by simp [monthM, hl], rfl⟩
    | false =>
      go_wp2
      go_ret
      exact ⟨by simp [monthM, hl], rfl⟩
  all_goals
    go_enter Tryz.func276, Tryz.ntmps276
    go_wp2
    go_ret
    exact ⟨rfl, rfl⟩

set_option maxRecDepth 20000 in
set_option maxHeartbeats 4000000 in
theorem rDays_any (y m d : Int) (hy0 : 0 ≤ y) (hy1 : y ≤ 9999) (hm0 : 0 ≤ m) (hm1 : m ≤ 99) (hd0 : 0 ≤ d) (hd1 : d ≤ 99) (w : World) :
    Calls Tryz.prog 245 #[.int .i64 y, .int .i64 m, .int .i64 d] w fun e w' => e = .returned (.tuple #[.int .i64 (daysM y m d).1, .int .i64 (daysM y m d).2]) ∧ w' = w := by
  by_cases h1 : y < 1
  · have hB : daysM y m d = (0, 1) := by simp [daysM, badDay, h1]
    rw [hB]
    go_enter Tryz.func245, Tryz.ntmps245
    go_wp2
    exact bodyPost_ret (v := .tuple #[_, _]) (by simp [results, Tryz.results245, go_sem]; try (congr 1; omega)) rfl ⟨rfl, rfl⟩
  by_cases h2 : m < 1
  · have hB : daysM y m d = (0, 1) := by simp [daysM, badDay, h2]
    rw [hB]
    go_enter Tryz.func245, Tryz.ntmps245
    go_wp2
    exact bodyPost_ret (v := .tuple #[_, _]) (by simp [results, Tryz.results245, go_sem]; try (congr 1; omega)) rfl ⟨rfl, rfl⟩
  by_cases h3 : 12 < m
  · have hB : daysM y m d = (0, 1) := by simp [daysM, badDay, h3]
    rw [hB]
    go_enter Tryz.func245, Tryz.ntmps245
    go_wp2
    exact bodyPost_ret (v := .tuple #[_, _]) (by simp [results, Tryz.results245, go_sem]; try (congr 1; omega)) rfl ⟨rfl, rfl⟩
  by_cases h4 : d < 1
  · have hB : daysM y m d = (0, 1) := by simp [daysM, badDay, h4]
    rw [hB]
    go_enter Tryz.func245, Tryz.ntmps245
    go_wp2
    exact bodyPost_ret (v := .tuple #[_, _]) (by simp [results, Tryz.results245, go_sem]; try (congr 1; omega)) rfl ⟨rfl, rfl⟩
  have hml := monthM_le y m (by omega) (by omega)
  by_cases h5 : monthM y m < d
  · have hB : daysM y m d = (0, 1) := by simp [daysM, badDay, h5]
    rw [hB]
    go_enter Tryz.func245, Tryz.ntmps245
    go_wp2_with fail
    refine (rLength_any y m (by omega) (by omega) (by omega) (by omega) _).mono ?_
    rintro e w1 ⟨rfl, rfl⟩
    go_wp2
    exact bodyPost_ret (v := .tuple #[_, _]) (by simp [results, Tryz.results245, go_sem]; try (congr 1; omega)) rfl ⟨rfl, rfl⟩
  have hB : daysM y m d = (yearsM y + d + beforeM y (m - 1).toNat, 0) := by simp [daysM, badDay, h1, h2, h3, h4, h5]; omega
  rw [hB]
  clear hB
  have b4 : (y - 1).tdiv 4 = (y - 1) / 4 := Int.tdiv_eq_ediv_of_nonneg (by omega)
  have b100 : (y - 1).tdiv 100 = (y - 1) / 100 := Int.tdiv_eq_ediv_of_nonneg (by omega)
  have b400 : (y - 1).tdiv 400 = (y - 1) / 400 := Int.tdiv_eq_ediv_of_nonneg (by omega)
  have hY : yearsM y = 365 * (y - 1) + (y - 1).tdiv 4 - (y - 1).tdiv 100 + (y - 1).tdiv 400 := rfl
  have q4 : 0 ≤ (y - 1).tdiv 4 ∧ (y - 1).tdiv 4 ≤ 9999 := by omega
  have q100 : 0 ≤ (y - 1).tdiv 100 ∧ (y - 1).tdiv 100 ≤ 9999 := by omega
  have q400 : 0 ≤ (y - 1).tdiv 400 ∧ (y - 1).tdiv 400 ≤ 9999 := by omega
  rw [b4, b100, b400] at hY
  have HY := Lib.hid hY
  clear hY b4 b100 b400 q4 q100 q400
  go_enter Tryz.func245, Tryz.ntmps245
  go_wp2_with fail
  refine (rLength_any y m (by omega) (by omega) (by omega) (by omega) _).mono ?_
  rintro e w1 ⟨rfl, rfl⟩
  go_wp2_with fail
  generalize hM : (m - 1).toNat = M at *
  go_loopg [8, 9] M (fun g v8 v9 wr => ∃ k : Nat, k + g = M ∧ v8 = .int .i64 (d + beforeM y k) ∧ v9 = .int .i64 (k + 1) ∧ wr = w1)
  case atStart => exact ⟨0, by omega, by simp [beforeM], rfl, rfl⟩
  case round =>
    obtain ⟨k, hk, rfl, rfl, rfl⟩ := hrel
    have hbl := beforeM_le y k (by omega)
    cases gk with
    | zero =>
      have hkM : k = M := by omega
      subst hkM
      have HB := Lib.hid (show beforeM y (m.toNat - 1) = beforeM y k by congr 1; omega)
      go_wp2
      exact bodyPost_ret (v := .tuple #[_, _]) (by simp [results, Tryz.results245, go_sem]; rw [HY.out, HB.out]; omega) rfl ⟨rfl, rfl⟩
    | succ gk =>
      go_wp2_with fail
      refine (rLength_any y (k + 1) (by omega) (by omega) (by omega) (by omega) _).mono ?_
      rintro e w3 ⟨rfl, rfl⟩
      have hm2 := monthM_le y (k + 1) (by omega) (by omega)
      go_wp2_with fail
      go_roundg gk
      case measure => omega
      case rel => exact ⟨k + 1, by omega, by simp [beforeM]; omega, by simp, rfl⟩

theorem dig_lt (k : Nat) (h : k ≤ 15) : (10 : Int) ^ k ≤ 1000000000000000 := by
  have h2 : (10 : Int) ^ k ≤ 10 ^ 15 := by exact_mod_cast Nat.pow_le_pow_right (n := 10) (by decide) h
  have h3 : (10 : Int) ^ 15 = 1000000000000000 := by decide
  omega

set_option maxRecDepth 20000 in
set_option maxHeartbeats 4000000 in
theorem rVal_any (s : Bs) (hd : s.all isDig = true) (h0 : 1 ≤ s.length) (h15 : s.length ≤ 15) (w : World) :
    Calls Tryz.prog 246 #[str s] w fun e w' => e = .returned (.int .i64 (numM s)) ∧ w' = w := by
  have hat : ∀ k, k < s.length → isDig (bAt s k) = true ∧ 48 ≤ (bAt s k).toNat ∧ (bAt s k).toNat ≤ 57 := by
    intro k hk
    have := List.all_eq_true.1 hd s[k] (List.getElem_mem _)
    rw [bAt_eq hk]
    refine ⟨this, ?_⟩
    simpa [isDig] using this
  have hh := hat 0 (by omega)
  have hg0 := fun h => ba_at s 0 h (by omega)
  have h32 : (((bAt s 0).toNat : Int) == 32) = false := by simp; omega
  have h45 : (((bAt s 0).toNat : Int) == 45) = false := by simp; omega
  have h43 : (((bAt s 0).toNat : Int) == 43) = false := by simp; omega
  have H := Lib.hid (And.intro hd hat)
  have hl0 : decide ((0 : Int) < s.length) = true := by simp; omega
  clear hd hat hh
  go_enter Tryz.func246, Tryz.ntmps246
  go_wp2_with fail
  go_loopg [3] 0 (fun g v3 wr => v3 = .int .i64 0 ∧ w = wr)
  case atStart => exact ⟨rfl, rfl⟩
  case round =>
    obtain ⟨rfl, rfl⟩ := hrel
    go_wp2_with fail
    clear h32 h45 h43 hg0
    go_loopg [3, 5] s.length (fun g v3 v5 wr => ∃ k : Nat, k + g = s.length ∧ v3 = .int .i64 k ∧ v5 = .int .i64 (numM (s.take k)) ∧ w = wr)
    case atStart => exact ⟨0, by omega, rfl, by simp [numM], rfl⟩
    case round =>
      obtain ⟨k, hk, rfl, rfl, rfl⟩ := hrel
      have hnl : 0 ≤ numM (s.take k) ∧ numM (s.take k) < 1000000000000000 := by
        have h1 := numM_le s H.out.1 k (by omega)
        have h2 := dig_lt k (by omega)
        omega
      cases gk with
      | zero =>
        have hkM : k = s.length := by omega
        have hj1 : decide (k < s.length) = false := by simp; omega
        have hT : numM (s.take k) = numM s := by rw [List.take_of_length_le (by omega)]
        rw [hT] at *
        generalize hzz : numM s = z at *
        have HZ := Lib.hid hzz
        clear hzz hT
        go_wp2
        go_ret
        exact ⟨by rw [HZ.out]; rfl, rfl⟩
      | succ gk =>
        have hlt : k < s.length := by omega
        have hj1 : decide (k < s.length) = true := by simp; omega
        obtain ⟨hx0, hx1, hx2⟩ := H.out.2 k hlt
        have hgk := fun h => ba_at s k h hlt
        have hn1 := numM_take s k hlt
        rw [← bAt_eq hlt] at hn1
        have hnl2 : numM (s.take (k + 1)) < 1000000000000000 := by
          have h1 := numM_le s H.out.1 (k + 1) (by omega)
          have h2 := dig_lt (k + 1) (by omega)
          omega
        rw [hn1] at hnl2
        have HX := Lib.hid (show cls 2 (bAt s k) = true by rw [cls_dig]; exact hx0)
        have HN := Lib.hid hn1
        clear hn1 hx0
        generalize hz : numM (s.take k) = z at *
        generalize hq : bAt s k = q at *
        go_wp2_with fail
        refine (rIsDigit_any _ _).mono ?_
        rintro e w1 ⟨rfl, rfl⟩
        rw [HX.out]
        have hmin : min (10 * z + ((q.toNat : Int) - 48)) 1000000000000000 = 10 * z + ((q.toNat : Int) - 48) := by omega
        go_wp2_with fail
        go_roundg gk
        case measure => omega
        case rel => exact ⟨k + 1, by omega, by simp, by rw [HN.out]; try (congr 1; omega), rfl⟩

end Go.Proofs.YtmcajbhljbbglaaGreatDoor
